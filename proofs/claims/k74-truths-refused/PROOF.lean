import PyProof.Rows.All
import HandS.Head0
import HandS.Head1
import HandS.Head2
import HandS.HeadHook1
import HandS.HeadHook2
import PySem.Challenge.RW_outlasts_k74_truths_refused
import Wide.All
import OpenK.AllK
import Wide.FinOn
import HandS.ForMost
import HandS.ForExc
import HandS.CallSlots
import HandS.Wide
import HandS.IsInst
import HandS.Strs
import HandS.Zip
import HandS.TupAny
import HandS.TupMul
import HandS.Conv
import HandS.Lambda
import HandS.Style
import HandS.RaiseMore
import KE.KNestM
import HandS.SetBool
import HandS.SetFor
import PyProof.ZipIter
import HandS.Zip0
import KE.GoesEnumKw
import PyProof.Draws
import PyProof.EnumMake
import HandS.Deep
import HandS.SortInts
import HandS.Defaults
import HandS.TupSets
import HandS.HotCalls
import HandS.ExcIs
import KE.DataMinMax
import KE.SortKeyed
import HandS.SortKw
import KE.KDictWalk
import HandS.TupLen
import HandS.More
import HandS.ExcInit
import HandS.ExcField
import KE.KExcIs
import HandS.Text
import HandS.FStr
import HandS.Iter
import HandS.StrMore
import HandS.CallRecv
import HandS.ListItems
import OpenK.KOps
import PyProof.FactsAll.object_2
import HandS.SlotsOwn
import KE.KTab
import KE.KUnpackStar
import HandS.Flow
set_option Elab.async false
set_option linter.all false
set_option maxRecDepth 100000
set_option maxHeartbeats 4000000
namespace DL
open PySem PySem.Spec PyProof.Rows L2 He
abbrev veM : List Value := [.type "ValueError", .type "Exception", .type "BaseException", .type "object"]
def excCB (K : PySem.W.Frag) (D : Addr) : Bool :=
  decide (PySem.W.findIn K (.ref D) "__getattribute__" = some (some (.builtin "BaseException.__getattribute__"))) && decide (PySem.W.findIn K (.ref D) "__getattr__" = some none) &&
  decide (PySem.W.subIn K (.ref D) (.type "BaseException") = some true) && PySem.W.hasDictIn K D && decide (PySem.W.findIn K (.ref D) "__class__" = some (some (.builtin "object.__class__"))) &&
  decide (PySem.W.specialIn K (.builtin "object.__class__") "__get__" = some (some (.builtin "getset_descriptor.__get__"))) && decide (PySem.W.takesIn K (.builtin "object.__class__") = some true) && decide (PySem.W.mroIn K D (.type "object") = some true)
def refX (o : Obj) : List Addr := match o.data with
  | .seq its _ => its.toList.flatMap refV
  | .dict es _ => es.toList.flatMap fun e => refV e.val
  | .func fd => refV fd.code ++ refV fd.defaults
  | .cls cd => [cd.ns]
  | _ => []
def nextX (g : Addr → Option Obj) (as : List Addr) : List Addr := as.flatMap fun a => match g a with
  | some o => refX o
  | none => []
def goX (g : Addr → Option Obj) : Nat → List Addr → List Addr
  | 0, as => as
  | n + 1, as => as ++ goX g n (nextX g as)
def asX (g : Addr → Option Obj) (n : Nat) : List Addr := goX g n [mainGlobals]
abbrev FrX (g : Addr → Option Obj) (n : Nat) : PySem.W.Frag := frG g (asX g n)
def fdX (K : PySem.W.Frag) (f : Addr) : Option FuncData := match K.lookup f with
  | some ⟨_, _, .func fd, _⟩ => some fd
  | _ => none
def cdX (K : PySem.W.Frag) (f : Addr) : Value := match fdX K f with
  | some fd => fd.code
  | none => .none
def dvX (K : PySem.W.Frag) (f : Addr) : Value := match fdX K f with
  | some fd => fd.defaults
  | none => .none
def rfV : Value → Addr
  | .ref a => a
  | _ => 0
def tkV : Value → Tok
  | .str _ t => t
  | .int _ t => t
  | _ => default
def fldX (K : PySem.W.Frag) (c : Addr) : Array Value := match K.lookup c with
  | some ⟨_, _, .fields vs, _⟩ => vs
  | _ => #[]
def ptX (K : PySem.W.Frag) (c : Addr) : Addr := match (fldX K c)[11]? with
  | some v => rfV v
  | none => 0
def itX (K : PySem.W.Frag) (p : Addr) (i : Nat) : Value := match K.lookup p with
  | some ⟨_, _, .seq its _, _⟩ => its.toList.getD i .none
  | _ => .none
def nsX (K : PySem.W.Frag) (x : Str) : Value := match PySem.W.nsIn K mainGlobals x with
  | some (some v) => v
  | _ => .none
inductive Shp where
  | i (n : Int)
  | s (x : Str)
  | r (a : Addr)
  | b (b : Bool)
  | non
def Shp.ok : Shp → Value → Bool
  | .i n, .int m _ => decide (m = n)
  | .s x, .str y _ => decide (y = x)
  | .r a, .ref c => Nat.beq c a
  | .b z, .bool c => z == c
  | .non, .none => true
  | _, _ => false
def Shp.val : Shp → Value → Value
  | .i n, v => .int n (tkV v)
  | .s x, v => .str x (tkV v)
  | .r a, _ => .ref a
  | .b z, _ => .bool z
  | .non, _ => .none
theorem Shp.val_ok : ∀ {s : Shp} {v : Value}, s.ok v = true → v = s.val v
  | .i n, .int m _, h => by
    have := of_decide_eq_true h
    subst this
    rfl
  | .s x, .str y _, h => by
    have := of_decide_eq_true h
    subst this
    rfl
  | .r a, .ref c, h => by
    have := Nat.eq_of_beq_eq_true h
    subst this
    rfl
  | .b z, .bool c, h => by
    have : z = c := beq_iff_eq.mp h
    subst this
    rfl
  | .non, .none, _ => rfl
def allS : List Shp → List Value → Bool
  | [], [] => true
  | s :: r, v :: q => s.ok v && allS r q
  | _, _ => false
def valsS : List Shp → Nat → (Nat → Value) → List Value
  | [], _, _ => []
  | s :: r, i, f => s.val (f i) :: valsS r (i + 1) f
theorem allS_ok : ∀ {shs : List Shp} {vs : List Value} (f : Nat → Value) (i : Nat), allS shs vs = true → (∀ j, f (i + j) = vs.getD j .none) → vs = valsS shs i f
  | [], [], _, _, _, _ => rfl
  | [], _ :: _, _, _, h, _ => by cases h
  | _ :: _, [], _, _, h, _ => by cases h
  | s :: r, v :: q, f, i, h, hf => by
    obtain ⟨h1, h2⟩ := ba (show (s.ok v && allS r q) = true from h)
    have e0 : f i = v := hf 0
    rw [valsS, e0, ← Shp.val_ok h1]
    congr 1
    refine allS_ok f (i + 1) h2 fun j => ?_
    have := hf (j + 1)
    rw [show i + 1 + j = i + (j + 1) by omega, this]
    rfl
def seqX (K : PySem.W.Frag) (p : Addr) (shs : List Shp) : Bool := match K.lookup p with
  | some ⟨.type c, _, .seq i _, _⟩ => decide (c = "tuple") && allS shs i.toList
  | _ => false
theorem seqX_ok {K : PySem.W.Frag} {p : Addr} {shs : List Shp} (h : seqX K p shs = true) : ∃ dd nn ss, K.lookup p = some ⟨.type "tuple", dd, .seq (valsS shs 0 (itX K p)).toArray nn, ss⟩ := by
  unfold seqX at h
  split at h
  · rename_i c dd i nn ss e
    rw [Bool.and_eq_true, decide_eq_true_eq] at h
    obtain ⟨rfl, h2⟩ := h
    refine ⟨dd, nn, ss, ?_⟩
    have := allS_ok (itX K p) 0 h2 fun j => by
      unfold itX
      rw [e, Nat.zero_add]
    rw [← this, e]
  · cases h
def nsB (K : PySem.W.Frag) (x : Str) (s : Shp) : Bool := match PySem.W.nsIn K mainGlobals x with
  | some (some v) => s.ok v
  | _ => false
theorem nsB_ok {K : PySem.W.Frag} {x : Str} {s : Shp} (h : nsB K x s = true) : PySem.W.nsIn K mainGlobals x = some (some (s.val (nsX K x))) := by
  unfold nsB at h
  split at h
  · rename_i v e
    have en : nsX K x = v := by unfold nsX; rw [e]
    rw [en, e, ← Shp.val_ok h]
  · cases h
def fldB (K : PySem.W.Frag) (c : Addr) : Bool := match K.lookup c with
  | some ⟨_, _, .fields _, _⟩ => true
  | _ => false
theorem fldB_ok {K : PySem.W.Frag} {c : Addr} (h : fldB K c = true) : ∃ xa xb xc, K.lookup c = some ⟨xa, xb, .fields (fldX K c), xc⟩ := by
  unfold fldB at h
  split at h
  · rename_i xa xb vs xc e
    refine ⟨xa, xb, xc, ?_⟩
    unfold fldX
    rw [e]
  · cases h
theorem none_ok {K : PySem.W.Frag} {p : Addr} (h : (K.lookup p).isNone = true) : K.lookup p = none := Option.isNone_iff_eq_none.mp h
structure DfX where
  at_ : Str × Option Str
  name : Str
  qual : Str
  params : Arguments
  body : List Stmt
  scope : Scope
def DfX.val (d : DfX) : FnW := some (d.name, d.qual, d.params, .stmts d.body, d.scope, mainGlobals, [], builtinsNs)
def DfX.ok (K : PySem.W.Frag) (d : DfX) : Bool := PySem.W.keepIn K (.ref (fAd K d.at_)) && PySem.W.codeIn K (cdX K (fAd K d.at_)) d.qual
theorem DfX.fn {K : PySem.W.Frag} {d : DfX} (e : fnW K d.at_ = d.val) :
    ∃ oc od osl kV doc pm an ct, K.lookup (fAd K d.at_) = some ⟨oc, od, .func (PySem.W.fnOf d.name d.qual d.params d.body d.scope (dvX K (fAd K d.at_)) kV doc pm an (cdX K (fAd K d.at_)) ct), osl⟩ := by
  unfold fnW at e
  cases q : K.lookup (fAd K d.at_) with
  | none =>
    rw [q] at e
    cases e
  | some o =>
    obtain ⟨oc, od, dt, osl⟩ := o
    rw [q] at e
    cases dt with
    | func fd =>
      have ec : cdX K (fAd K d.at_) = fd.code := by unfold cdX fdX; rw [q]
      have ed : dvX K (fAd K d.at_) = fd.defaults := by unfold dvX fdX; rw [q]
      rw [ec, ed]
      obtain ⟨n1, n2, n3, n4, n5, n6, n7, n8, n9, n10, n11, n12, n13, n14, n15⟩ := fd
      have e2 : (some (n1, n2, n3, n4, n5, n6, n7, n15) : FnW) = some (d.name, d.qual, d.params, .stmts d.body, d.scope, mainGlobals, [], builtinsNs) := e
      simp only [Option.some.injEq, Prod.mk.injEq] at e2
      obtain ⟨h1, h2, h3, h4, h5, h6, h7, h8⟩ := e2
      subst h1 h2 h3 h4 h5 h6 h7 h8
      exact ⟨oc, od, osl, n9, n10, n11, n12, n14, rfl⟩
    | _ => cases e
abbrev ChX : Type := List (List (PySem.W.Frag → Bool))
def tbX (K : PySem.W.Frag) (tf : List (Str × Option Str)) : List Addr := tf.map fun p => ptX K (rfV (cdX K (fAd K p)))
def obX (fa : ChX) (fn : List DfX) (K : PySem.W.Frag) : Bool × List FnW := ((fa.all fun l => l.all fun f => f K) && fn.all fun d => d.ok K, fn.map fun d => fnW K d.at_)
structure SaysX (fa : ChX) (fn : List DfX) (K : PySem.W.Frag) : Prop where
  e : obX fa fn K = (true, fn.map DfX.val)
def obsX (n : Nat) (fa : ChX) (fn : List DfX) (tf : List (Str × Option Str)) (g : Addr → Option Obj) : (Bool × List FnW) × List (Option Obj) := (obX fa fn (FrX g n), (tbX (FrX g n) tf).map g)
def hookX (n : Nat) (fa : ChX) (fn : List DfX) (tf : List (Str × Option Str)) : PySem.W.Hook where
  α := (Bool × List FnW) × List (Option Obj)
  obs := fun s => obsX n fa fn tf s.heap.get?
  val := fun _ => ((true, fn.map DfX.val), tf.map fun _ => some (PySem.W.tabObj #[]))
  says := fun _ h => ∃ K : PySem.W.Frag, K.In h ∧ SaysX fa fn K ∧ ∀ P ∈ tbX K tf, h.get? P = some (PySem.W.tabObj #[])
  of := fun _ s e => ⟨FrX s.heap.get? n, frG_in, ⟨congrArg (fun z => z.1) e⟩, fun P hP => by
    have e2 : (tbX (FrX s.heap.get? n) tf).map s.heap.get? = tf.map fun _ => some (PySem.W.tabObj #[]) := congrArg (fun z => z.2) e
    have m : s.heap.get? P ∈ (tbX (FrX s.heap.get? n) tf).map s.heap.get? := List.mem_map_of_mem hP
    rw [e2] at m
    obtain ⟨_, _, z⟩ := List.mem_map.mp m
    exact z.symm⟩
  keeps := fun _ _ _ ⟨K, hK, c, t⟩ k => ⟨K, PySem.W.Frag.In.keeps hK k, c, fun P hP => k _ _ (t P hP)⟩
theorem obsX_eq {n : Nat} {fa : ChX} {fn : List DfX} {tf : List (Str × Option Str)} {g : Addr → Option Obj} {s : Shared} (h : ∀ a, g a = s.heap.get? a) : obsX n fa fn tf g = (hookX n fa fn tf).obs s := by
  have e : g = s.heap.get? := funext h
  rw [e] <;> rfl
end DL
namespace Lw
open PySem L2 DL
def topS (i : Nat) : Stmt := PySem.Challenge.pw_outlasts_k74_truths_refused.main.body.getD i (.Pass ⟨0, 0, 0, 0⟩)
abbrev st__law_pot : Stmt := topS 57
abbrev st__law_take : Stmt := topS 58
abbrev st__law_plain : Stmt := topS 65
abbrev st__law_mixed : Stmt := topS 61
abbrev st__law_cell_at : Stmt := topS 56
abbrev st_is_whole : Stmt := topS 21
abbrev st_is_from_to : Stmt := topS 22
abbrev st_is_lasting : Stmt := topS 31
abbrev st_is_span : Stmt := topS 32
abbrev st_is_book : Stmt := topS 33
abbrev st_need_book : Stmt := topS 34
abbrev st_need_plain : Stmt := topS 35
abbrev st_is_true_of : Stmt := topS 39
abbrev st_is_truth_by : Stmt := topS 40
abbrev st_is_truth : Stmt := topS 41
abbrev st_soonest_by : Stmt := topS 43
abbrev st_soonest : Stmt := topS 46
abbrev st_latest_by : Stmt := topS 44
abbrev st_latest : Stmt := topS 47
abbrev st__law_refusal : Stmt := topS 63
abbrev st__law_said : Stmt := topS 64
abbrev st__law_alone : Stmt := topS 68
abbrev st__law_odd : Stmt := topS 62
abbrev st__law_no_books : Stmt := topS 66
abbrev st_is_less : Stmt := topS 25
abbrev st_common : Stmt := topS 23
abbrev st_put : Stmt := topS 24
abbrev st_lasting : Stmt := topS 42
abbrev st_first_less : Stmt := topS 48
abbrev st_may_outlast : Stmt := topS 49
abbrev st_must_outlast : Stmt := topS 50
abbrev st_are_truths : Stmt := topS 51
abbrev st_shows_may : Stmt := topS 52
abbrev st_shows_never : Stmt := topS 53
abbrev st_shows_not : Stmt := topS 54
abbrev st__law_words : Stmt := topS 67
abbrev st__law_whole : Stmt := topS 59
abbrev st__law_within : Stmt := topS 60
abbrev st_need_time : Stmt := topS 36
abbrev st_bounds : Stmt := topS 45
abbrev st_law : Stmt := topS 69
end Lw
namespace Lw
open PySem PySem.Spec PyProof.Rows L2 He DL
def fa0 : List (PySem.W.Frag → Bool) := [fun K => decide (PySem.W.nsIn K mainGlobals "_law_pot" = some (some (.ref (ga K "_law_pot")))),
  fun K => decide (dvX K (ga K "_law_pot") = .none),
  fun K => decide (PySem.W.nsIn K mainGlobals "_law_take" = some (some (.ref (ga K "_law_take")))),
  fun K => decide (dvX K (ga K "_law_take") = .none),
  fun K => decide (PySem.W.nsIn K mainGlobals "_law_plain" = some (some (.ref (ga K "_law_plain")))),
  fun K => decide (dvX K (ga K "_law_plain") = .none),
  fun K => decide (PySem.W.nsIn K mainGlobals "_law_mixed" = some (some (.ref (ga K "_law_mixed")))),
  fun K => decide (dvX K (ga K "_law_mixed") = .none),
  fun K => decide (PySem.W.nsIn K mainGlobals "_law_cell_at" = some (some (.ref (ga K "_law_cell_at")))),
  fun K => decide (dvX K (ga K "_law_cell_at") = .none),
  fun K => decide (PySem.W.nsIn K mainGlobals "is_whole" = some (some (.ref (ga K "is_whole")))),
  fun K => decide (dvX K (ga K "is_whole") = .none),
  fun K => decide (PySem.W.nsIn K mainGlobals "is_from_to" = some (some (.ref (ga K "is_from_to")))),
  fun K => decide (dvX K (ga K "is_from_to") = .none),
  fun K => decide (PySem.W.nsIn K mainGlobals "is_lasting" = some (some (.ref (ga K "is_lasting")))),
  fun K => decide (dvX K (ga K "is_lasting") = .none),
  fun K => decide (PySem.W.nsIn K mainGlobals "is_span" = some (some (.ref (ga K "is_span")))),
  fun K => decide (dvX K (ga K "is_span") = .none),
  fun K => decide (PySem.W.nsIn K mainGlobals "is_book" = some (some (.ref (ga K "is_book")))),
  fun K => decide (dvX K (ga K "is_book") = .none),
  fun K => decide (PySem.W.nsIn K mainGlobals "need_book" = some (some (.ref (ga K "need_book")))),
  fun K => decide (dvX K (ga K "need_book") = .none),
  fun K => decide (PySem.W.nsIn K mainGlobals "need_plain" = some (some (.ref (ga K "need_plain")))),
  fun K => decide (dvX K (ga K "need_plain") = .none),
  fun K => decide (PySem.W.nsIn K mainGlobals "is_true_of" = some (some (.ref (ga K "is_true_of")))),
  fun K => decide (dvX K (ga K "is_true_of") = .none),
  fun K => decide (PySem.W.nsIn K mainGlobals "is_truth_by" = some (some (.ref (ga K "is_truth_by")))),
  fun K => decide (dvX K (ga K "is_truth_by") = .none),
  fun K => decide (PySem.W.nsIn K mainGlobals "is_truth" = some (some (.ref (ga K "is_truth")))),
  fun K => decide (dvX K (ga K "is_truth") = .none)]
def fa1 : List (PySem.W.Frag → Bool) := [fun K => decide (PySem.W.nsIn K mainGlobals "soonest_by" = some (some (.ref (ga K "soonest_by")))),
  fun K => decide (dvX K (ga K "soonest_by") = .none),
  fun K => decide (PySem.W.nsIn K mainGlobals "soonest" = some (some (.ref (ga K "soonest")))),
  fun K => decide (dvX K (ga K "soonest") = .none),
  fun K => decide (PySem.W.nsIn K mainGlobals "latest_by" = some (some (.ref (ga K "latest_by")))),
  fun K => decide (dvX K (ga K "latest_by") = .none),
  fun K => decide (PySem.W.nsIn K mainGlobals "latest" = some (some (.ref (ga K "latest")))),
  fun K => decide (dvX K (ga K "latest") = .none),
  fun K => decide (PySem.W.nsIn K mainGlobals "_law_refusal" = some (some (.ref (ga K "_law_refusal")))),
  fun K => decide (dvX K (ga K "_law_refusal") = .none),
  fun K => decide (PySem.W.nsIn K mainGlobals "_law_said" = some (some (.ref (ga K "_law_said")))),
  fun K => decide (dvX K (ga K "_law_said") = .none),
  fun K => decide (PySem.W.nsIn K mainGlobals "_law_alone" = some (some (.ref (ga K "_law_alone")))),
  fun K => decide (dvX K (ga K "_law_alone") = .none),
  fun K => decide (cdX K (ga K "_law_alone") = (.ref (rfV (cdX K (ga K "_law_alone"))))),
  fun K => fldB K (rfV (cdX K (ga K "_law_alone"))),
  fun K => decide ((fldX K (rfV (cdX K (ga K "_law_alone"))))[11]? = some (.ref (ptX K (rfV (cdX K (ga K "_law_alone")))))),
  fun K => (K.lookup (ptX K (rfV (cdX K (ga K "_law_alone"))))).isNone,
  fun K => decide (PySem.W.codeHdIn K (rfV (cdX K (ga K "_law_alone"))) (ptX K (rfV (cdX K (ga K "_law_alone")))) = true),
  fun K => decide (PySem.W.nsIn K mainGlobals "_law_odd" = some (some (.ref (ga K "_law_odd")))),
  fun K => decide (dvX K (ga K "_law_odd") = .none),
  fun K => decide (PySem.W.nsIn K mainGlobals "_law_no_books" = some (some (.ref (ga K "_law_no_books")))),
  fun K => decide (dvX K (ga K "_law_no_books") = .none),
  fun K => decide (PySem.W.nsIn K mainGlobals "is_less" = some (some (.ref (ga K "is_less")))),
  fun K => decide (dvX K (ga K "is_less") = .none),
  fun K => decide (PySem.W.nsIn K mainGlobals "common" = some (some (.ref (ga K "common")))),
  fun K => decide (dvX K (ga K "common") = .none),
  fun K => decide (PySem.W.nsIn K mainGlobals "put" = some (some (.ref (ga K "put")))),
  fun K => decide (dvX K (ga K "put") = .none),
  fun K => decide (PySem.W.nsIn K mainGlobals "lasting" = some (some (.ref (ga K "lasting"))))]
def fa2 : List (PySem.W.Frag → Bool) := [fun K => decide (dvX K (ga K "lasting") = .none),
  fun K => decide (PySem.W.nsIn K mainGlobals "first_less" = some (some (.ref (ga K "first_less")))),
  fun K => decide (dvX K (ga K "first_less") = .none),
  fun K => decide (PySem.W.nsIn K mainGlobals "may_outlast" = some (some (.ref (ga K "may_outlast")))),
  fun K => decide (dvX K (ga K "may_outlast") = .none),
  fun K => decide (PySem.W.nsIn K mainGlobals "must_outlast" = some (some (.ref (ga K "must_outlast")))),
  fun K => decide (dvX K (ga K "must_outlast") = .none),
  fun K => decide (PySem.W.nsIn K mainGlobals "are_truths" = some (some (.ref (ga K "are_truths")))),
  fun K => decide (dvX K (ga K "are_truths") = .none),
  fun K => decide (PySem.W.nsIn K mainGlobals "shows_may" = some (some (.ref (ga K "shows_may")))),
  fun K => decide (dvX K (ga K "shows_may") = .none),
  fun K => decide (PySem.W.nsIn K mainGlobals "shows_never" = some (some (.ref (ga K "shows_never")))),
  fun K => decide (dvX K (ga K "shows_never") = .none),
  fun K => decide (PySem.W.nsIn K mainGlobals "shows_not" = some (some (.ref (ga K "shows_not")))),
  fun K => decide (dvX K (ga K "shows_not") = .none),
  fun K => decide (PySem.W.nsIn K mainGlobals "_law_words" = some (some (.ref (ga K "_law_words")))),
  fun K => decide (dvX K (ga K "_law_words") = .none),
  fun K => decide (cdX K (ga K "_law_words") = (.ref (rfV (cdX K (ga K "_law_words"))))),
  fun K => fldB K (rfV (cdX K (ga K "_law_words"))),
  fun K => decide ((fldX K (rfV (cdX K (ga K "_law_words"))))[11]? = some (.ref (ptX K (rfV (cdX K (ga K "_law_words")))))),
  fun K => (K.lookup (ptX K (rfV (cdX K (ga K "_law_words"))))).isNone,
  fun K => decide (PySem.W.codeHdIn K (rfV (cdX K (ga K "_law_words"))) (ptX K (rfV (cdX K (ga K "_law_words")))) = true),
  fun K => decide (PySem.W.nsIn K mainGlobals "_law_whole" = some (some (.ref (ga K "_law_whole")))),
  fun K => decide (dvX K (ga K "_law_whole") = .none),
  fun K => decide (PySem.W.nsIn K mainGlobals "_law_within" = some (some (.ref (ga K "_law_within")))),
  fun K => decide (dvX K (ga K "_law_within") = .none),
  fun K => decide (PySem.W.nsIn K mainGlobals "need_time" = some (some (.ref (ga K "need_time")))),
  fun K => decide (dvX K (ga K "need_time") = .none),
  fun K => decide (PySem.W.nsIn K mainGlobals "bounds" = some (some (.ref (ga K "bounds")))),
  fun K => decide (dvX K (ga K "bounds") = .none)]
def fa3 : List (PySem.W.Frag → Bool) := [fun K => decide (PySem.W.nsIn K mainGlobals "law" = some (some (.ref (ga K "law")))),
  fun K => decide (dvX K (ga K "law") = .none),
  fun K => decide (cdX K (ga K "law") = (.ref (rfV (cdX K (ga K "law"))))),
  fun K => fldB K (rfV (cdX K (ga K "law"))),
  fun K => decide ((fldX K (rfV (cdX K (ga K "law"))))[11]? = some (.ref (ptX K (rfV (cdX K (ga K "law")))))),
  fun K => (K.lookup (ptX K (rfV (cdX K (ga K "law"))))).isNone,
  fun K => decide (PySem.W.codeHdIn K (rfV (cdX K (ga K "law"))) (ptX K (rfV (cdX K (ga K "law")))) = true),
  fun K => decide (PySem.W.nsIn K mainGlobals "ValueError" = some none),
  fun K => decide (PySem.W.nsIn K mainGlobals "abs" = some none),
  fun K => decide (PySem.W.nsIn K mainGlobals "all" = some none),
  fun K => decide (PySem.W.nsIn K mainGlobals "any" = some none),
  fun K => decide (PySem.W.nsIn K mainGlobals "bool" = some none),
  fun K => decide (PySem.W.nsIn K mainGlobals "int" = some none),
  fun K => decide (PySem.W.nsIn K mainGlobals "isinstance" = some none),
  fun K => decide (PySem.W.nsIn K mainGlobals "len" = some none),
  fun K => decide (PySem.W.nsIn K mainGlobals "list" = some none),
  fun K => decide (PySem.W.nsIn K mainGlobals "max" = some none),
  fun K => decide (PySem.W.nsIn K mainGlobals "min" = some none),
  fun K => decide (PySem.W.nsIn K mainGlobals "range" = some none),
  fun K => decide (PySem.W.nsIn K mainGlobals "repr" = some none),
  fun K => decide (PySem.W.nsIn K mainGlobals "sorted" = some none),
  fun K => decide (PySem.W.nsIn K mainGlobals "tuple" = some none),
  fun K => decide (PySem.W.nsIn K mainGlobals "zip" = some none),
  fun K => decide (PySem.W.nsIn K mainGlobals "KINDS" = some (some (.ref (ga K "KINDS")))),
  fun K => seqX K (ga K "KINDS") [.i 1, .i 2, .i 3, .i 4],
  fun K => nsB K "LATEST" (.i 2000),
  fun K => nsB K "MOST_AGE" (.i 999),
  fun K => nsB K "MOST_SPANS" (.i 40),
  fun K => nsB K "MOST_TIME" (.i 9999),
  fun K => decide (PySem.W.nsIn K mainGlobals "SpanError" = some (some (.ref (ga K "SpanError"))))]
def fa4 : List (PySem.W.Frag → Bool) := [fun K => decide (PySem.W.nsIn K mainGlobals "NoBook" = some (some (.ref (ga K "NoBook")))),
  fun K => decide (PySem.W.keepIn K (.ref (ga K "NoBook")) = true),
  fun K => decide (PySem.W.excIn K (ga K "NoBook") veM "ValueError.__new__" = true),
  fun K => decide (PySem.W.subIn K (.ref (ga K "NoBook")) (.type "BaseException") = some true),
  fun K => decide (PySem.W.typeIn K (.ref (ga K "NoBook")) = some (.type "type")),
  fun K => decide (PySem.W.nsIn K mainGlobals "NoTime" = some (some (.ref (ga K "NoTime")))),
  fun K => decide (PySem.W.keepIn K (.ref (ga K "NoTime")) = true),
  fun K => decide (PySem.W.excIn K (ga K "NoTime") veM "ValueError.__new__" = true),
  fun K => decide (PySem.W.subIn K (.ref (ga K "NoTime")) (.type "BaseException") = some true),
  fun K => decide (PySem.W.typeIn K (.ref (ga K "NoTime")) = some (.type "type")),
  fun K => decide (PySem.W.nsIn K mainGlobals "NoShare" = some (some (.ref (ga K "NoShare")))),
  fun K => decide (PySem.W.nsIn K mainGlobals "NoParts" = some (some (.ref (ga K "NoParts")))),
  fun K => decide (PySem.W.nsIn K mainGlobals "NoPlain" = some (some (.ref (ga K "NoPlain")))),
  fun K => decide (PySem.W.keepIn K (.ref (ga K "NoPlain")) = true),
  fun K => decide (PySem.W.excIn K (ga K "NoPlain") veM "ValueError.__new__" = true),
  fun K => decide (PySem.W.subIn K (.ref (ga K "NoPlain")) (.type "BaseException") = some true),
  fun K => decide (PySem.W.typeIn K (.ref (ga K "NoPlain")) = some (.type "type")),
  fun K => decide (PySem.W.nsIn K mainGlobals "NoKind" = some (some (.ref (ga K "NoKind")))),
  fun K => decide (PySem.W.nsIn K mainGlobals "NoMarks" = some (some (.ref (ga K "NoMarks")))),
  fun K => decide (PySem.W.nsIn K mainGlobals "NoWord" = some (some (.ref (ga K "NoWord")))),
  fun K => decide (PySem.W.nsIn K mainGlobals "NoFull" = some (some (.ref (ga K "NoFull")))),
  fun K => decide (PySem.W.nsIn K mainGlobals "NoNumber" = some (some (.ref (ga K "NoNumber")))),
  fun K => decide (PySem.W.nsIn K mainGlobals "NoBand" = some (some (.ref (ga K "NoBand")))),
  fun K => decide (PySem.W.nsIn K mainGlobals "NoName" = some (some (.ref (ga K "NoName")))),
  fun K => decide (PySem.W.nsIn K mainGlobals "NoDay" = some (some (.ref (ga K "NoDay")))),
  fun K => decide (PySem.W.nsIn K mainGlobals "NoDeed" = some (some (.ref (ga K "NoDeed")))),
  fun K => decide (PySem.W.nsIn K mainGlobals "NoFraction" = some (some (.ref (ga K "NoFraction")))),
  fun K => decide (PySem.W.nsIn K mainGlobals "NoText" = some (some (.ref (ga K "NoText")))),
  fun K => decide (PySem.W.nsIn K mainGlobals "NoLine" = some (some (.ref (ga K "NoLine")))),
  fun K => decide (PySem.W.nsIn K mainGlobals "TooMany" = some (some (.ref (ga K "TooMany"))))]
def fa5 : List (PySem.W.Frag → Bool) := [fun K => decide (excCB K (ga K "NoBook") = true),
  fun K => decide (PySem.W.exmOne K (.ref (ga K "NoBook")) (.ref (ga K "SpanError")) = some true),
  fun K => decide (PySem.W.kitOne K (.ref (ga K "NoBook")) (.ref (ga K "NoBook")) = some true),
  fun K => decide (PySem.W.kitOne K (.ref (ga K "NoBook")) (.ref (ga K "NoTime")) = some false),
  fun K => decide (PySem.W.kitOne K (.ref (ga K "NoBook")) (.ref (ga K "NoShare")) = some false),
  fun K => decide (PySem.W.kitOne K (.ref (ga K "NoBook")) (.ref (ga K "NoParts")) = some false),
  fun K => decide (PySem.W.kitOne K (.ref (ga K "NoBook")) (.ref (ga K "NoPlain")) = some false),
  fun K => decide (PySem.W.kitOne K (.ref (ga K "NoBook")) (.ref (ga K "NoKind")) = some false),
  fun K => decide (PySem.W.kitOne K (.ref (ga K "NoBook")) (.ref (ga K "NoMarks")) = some false),
  fun K => decide (PySem.W.kitOne K (.ref (ga K "NoBook")) (.ref (ga K "NoWord")) = some false),
  fun K => decide (PySem.W.kitOne K (.ref (ga K "NoBook")) (.ref (ga K "NoFull")) = some false),
  fun K => decide (PySem.W.kitOne K (.ref (ga K "NoBook")) (.ref (ga K "NoNumber")) = some false),
  fun K => decide (PySem.W.kitOne K (.ref (ga K "NoBook")) (.ref (ga K "NoBand")) = some false),
  fun K => decide (PySem.W.kitOne K (.ref (ga K "NoBook")) (.ref (ga K "NoName")) = some false),
  fun K => decide (PySem.W.kitOne K (.ref (ga K "NoBook")) (.ref (ga K "NoDay")) = some false),
  fun K => decide (PySem.W.kitOne K (.ref (ga K "NoBook")) (.ref (ga K "NoDeed")) = some false),
  fun K => decide (PySem.W.kitOne K (.ref (ga K "NoBook")) (.ref (ga K "NoFraction")) = some false),
  fun K => decide (PySem.W.kitOne K (.ref (ga K "NoBook")) (.ref (ga K "NoText")) = some false),
  fun K => decide (PySem.W.kitOne K (.ref (ga K "NoBook")) (.ref (ga K "NoLine")) = some false),
  fun K => decide (PySem.W.kitOne K (.ref (ga K "NoBook")) (.ref (ga K "TooMany")) = some false),
  fun K => decide (PySem.W.kitOne K (.ref (ga K "NoBook")) (.type "ValueError") = some true),
  fun K => decide (excCB K (ga K "NoTime") = true),
  fun K => decide (PySem.W.exmOne K (.ref (ga K "NoTime")) (.ref (ga K "SpanError")) = some true),
  fun K => decide (PySem.W.kitOne K (.ref (ga K "NoTime")) (.ref (ga K "NoBook")) = some false),
  fun K => decide (PySem.W.kitOne K (.ref (ga K "NoTime")) (.ref (ga K "NoTime")) = some true),
  fun K => decide (PySem.W.kitOne K (.ref (ga K "NoTime")) (.ref (ga K "NoShare")) = some false),
  fun K => decide (PySem.W.kitOne K (.ref (ga K "NoTime")) (.ref (ga K "NoParts")) = some false),
  fun K => decide (PySem.W.kitOne K (.ref (ga K "NoTime")) (.ref (ga K "NoPlain")) = some false),
  fun K => decide (PySem.W.kitOne K (.ref (ga K "NoTime")) (.ref (ga K "NoKind")) = some false),
  fun K => decide (PySem.W.kitOne K (.ref (ga K "NoTime")) (.ref (ga K "NoMarks")) = some false)]
def fa6 : List (PySem.W.Frag → Bool) := [fun K => decide (PySem.W.kitOne K (.ref (ga K "NoTime")) (.ref (ga K "NoWord")) = some false),
  fun K => decide (PySem.W.kitOne K (.ref (ga K "NoTime")) (.ref (ga K "NoFull")) = some false),
  fun K => decide (PySem.W.kitOne K (.ref (ga K "NoTime")) (.ref (ga K "NoNumber")) = some false),
  fun K => decide (PySem.W.kitOne K (.ref (ga K "NoTime")) (.ref (ga K "NoBand")) = some false),
  fun K => decide (PySem.W.kitOne K (.ref (ga K "NoTime")) (.ref (ga K "NoName")) = some false),
  fun K => decide (PySem.W.kitOne K (.ref (ga K "NoTime")) (.ref (ga K "NoDay")) = some false),
  fun K => decide (PySem.W.kitOne K (.ref (ga K "NoTime")) (.ref (ga K "NoDeed")) = some false),
  fun K => decide (PySem.W.kitOne K (.ref (ga K "NoTime")) (.ref (ga K "NoFraction")) = some false),
  fun K => decide (PySem.W.kitOne K (.ref (ga K "NoTime")) (.ref (ga K "NoText")) = some false),
  fun K => decide (PySem.W.kitOne K (.ref (ga K "NoTime")) (.ref (ga K "NoLine")) = some false),
  fun K => decide (PySem.W.kitOne K (.ref (ga K "NoTime")) (.ref (ga K "TooMany")) = some false),
  fun K => decide (PySem.W.kitOne K (.ref (ga K "NoTime")) (.type "ValueError") = some true),
  fun K => decide (excCB K (ga K "NoPlain") = true),
  fun K => decide (PySem.W.exmOne K (.ref (ga K "NoPlain")) (.ref (ga K "SpanError")) = some true),
  fun K => decide (PySem.W.kitOne K (.ref (ga K "NoPlain")) (.ref (ga K "NoBook")) = some false),
  fun K => decide (PySem.W.kitOne K (.ref (ga K "NoPlain")) (.ref (ga K "NoTime")) = some false),
  fun K => decide (PySem.W.kitOne K (.ref (ga K "NoPlain")) (.ref (ga K "NoShare")) = some false),
  fun K => decide (PySem.W.kitOne K (.ref (ga K "NoPlain")) (.ref (ga K "NoParts")) = some false),
  fun K => decide (PySem.W.kitOne K (.ref (ga K "NoPlain")) (.ref (ga K "NoPlain")) = some true),
  fun K => decide (PySem.W.kitOne K (.ref (ga K "NoPlain")) (.ref (ga K "NoKind")) = some false),
  fun K => decide (PySem.W.kitOne K (.ref (ga K "NoPlain")) (.ref (ga K "NoMarks")) = some false),
  fun K => decide (PySem.W.kitOne K (.ref (ga K "NoPlain")) (.ref (ga K "NoWord")) = some false),
  fun K => decide (PySem.W.kitOne K (.ref (ga K "NoPlain")) (.ref (ga K "NoFull")) = some false),
  fun K => decide (PySem.W.kitOne K (.ref (ga K "NoPlain")) (.ref (ga K "NoNumber")) = some false),
  fun K => decide (PySem.W.kitOne K (.ref (ga K "NoPlain")) (.ref (ga K "NoBand")) = some false),
  fun K => decide (PySem.W.kitOne K (.ref (ga K "NoPlain")) (.ref (ga K "NoName")) = some false),
  fun K => decide (PySem.W.kitOne K (.ref (ga K "NoPlain")) (.ref (ga K "NoDay")) = some false),
  fun K => decide (PySem.W.kitOne K (.ref (ga K "NoPlain")) (.ref (ga K "NoDeed")) = some false),
  fun K => decide (PySem.W.kitOne K (.ref (ga K "NoPlain")) (.ref (ga K "NoFraction")) = some false),
  fun K => decide (PySem.W.kitOne K (.ref (ga K "NoPlain")) (.ref (ga K "NoText")) = some false)]
def fa7 : List (PySem.W.Frag → Bool) := [fun K => decide (PySem.W.kitOne K (.ref (ga K "NoPlain")) (.ref (ga K "NoLine")) = some false),
  fun K => decide (PySem.W.kitOne K (.ref (ga K "NoPlain")) (.ref (ga K "TooMany")) = some false),
  fun K => decide (PySem.W.kitOne K (.ref (ga K "NoPlain")) (.type "ValueError") = some true),
  fun K => decide ((ptX K (rfV (cdX K (ga K "_law_alone")))) ≠ (ptX K (rfV (cdX K (ga K "_law_words"))))),
  fun K => decide ((ptX K (rfV (cdX K (ga K "_law_alone")))) ≠ (ptX K (rfV (cdX K (ga K "law"))))),
  fun K => decide ((ptX K (rfV (cdX K (ga K "_law_words")))) ≠ (ptX K (rfV (cdX K (ga K "_law_alone"))))),
  fun K => decide ((ptX K (rfV (cdX K (ga K "_law_words")))) ≠ (ptX K (rfV (cdX K (ga K "law"))))),
  fun K => decide ((ptX K (rfV (cdX K (ga K "law")))) ≠ (ptX K (rfV (cdX K (ga K "_law_alone"))))),
  fun K => decide ((ptX K (rfV (cdX K (ga K "law")))) ≠ (ptX K (rfV (cdX K (ga K "_law_words")))))]
def faS : DL.ChX := [fa0, fa1, fa2, fa3, fa4, fa5, fa6, fa7]
def fn0 : List DL.DfX := [⟨("_law_pot", none), "_law_pot", "_law_pot", defArgs st__law_pot, defBody st__law_pot, defScope st__law_pot⟩,
  ⟨("_law_take", none), "_law_take", "_law_take", defArgs st__law_take, defBody st__law_take, defScope st__law_take⟩,
  ⟨("_law_plain", none), "_law_plain", "_law_plain", defArgs st__law_plain, defBody st__law_plain, defScope st__law_plain⟩,
  ⟨("_law_mixed", none), "_law_mixed", "_law_mixed", defArgs st__law_mixed, defBody st__law_mixed, defScope st__law_mixed⟩,
  ⟨("_law_cell_at", none), "_law_cell_at", "_law_cell_at", defArgs st__law_cell_at, defBody st__law_cell_at, defScope st__law_cell_at⟩,
  ⟨("is_whole", none), "is_whole", "is_whole", defArgs st_is_whole, defBody st_is_whole, defScope st_is_whole⟩,
  ⟨("is_from_to", none), "is_from_to", "is_from_to", defArgs st_is_from_to, defBody st_is_from_to, defScope st_is_from_to⟩,
  ⟨("is_lasting", none), "is_lasting", "is_lasting", defArgs st_is_lasting, defBody st_is_lasting, defScope st_is_lasting⟩,
  ⟨("is_span", none), "is_span", "is_span", defArgs st_is_span, defBody st_is_span, defScope st_is_span⟩,
  ⟨("is_book", none), "is_book", "is_book", defArgs st_is_book, defBody st_is_book, defScope st_is_book⟩,
  ⟨("need_book", none), "need_book", "need_book", defArgs st_need_book, defBody st_need_book, defScope st_need_book⟩,
  ⟨("need_plain", none), "need_plain", "need_plain", defArgs st_need_plain, defBody st_need_plain, defScope st_need_plain⟩,
  ⟨("is_true_of", none), "is_true_of", "is_true_of", defArgs st_is_true_of, defBody st_is_true_of, defScope st_is_true_of⟩,
  ⟨("is_truth_by", none), "is_truth_by", "is_truth_by", defArgs st_is_truth_by, defBody st_is_truth_by, defScope st_is_truth_by⟩,
  ⟨("is_truth", none), "is_truth", "is_truth", defArgs st_is_truth, defBody st_is_truth, defScope st_is_truth⟩,
  ⟨("soonest_by", none), "soonest_by", "soonest_by", defArgs st_soonest_by, defBody st_soonest_by, defScope st_soonest_by⟩,
  ⟨("soonest", none), "soonest", "soonest", defArgs st_soonest, defBody st_soonest, defScope st_soonest⟩,
  ⟨("latest_by", none), "latest_by", "latest_by", defArgs st_latest_by, defBody st_latest_by, defScope st_latest_by⟩,
  ⟨("latest", none), "latest", "latest", defArgs st_latest, defBody st_latest, defScope st_latest⟩,
  ⟨("_law_refusal", none), "_law_refusal", "_law_refusal", defArgs st__law_refusal, defBody st__law_refusal, defScope st__law_refusal⟩,
  ⟨("_law_said", none), "_law_said", "_law_said", defArgs st__law_said, defBody st__law_said, defScope st__law_said⟩,
  ⟨("_law_alone", none), "_law_alone", "_law_alone", defArgs st__law_alone, defBody st__law_alone, defScope st__law_alone⟩,
  ⟨("_law_odd", none), "_law_odd", "_law_odd", defArgs st__law_odd, defBody st__law_odd, defScope st__law_odd⟩,
  ⟨("_law_no_books", none), "_law_no_books", "_law_no_books", defArgs st__law_no_books, defBody st__law_no_books, defScope st__law_no_books⟩,
  ⟨("is_less", none), "is_less", "is_less", defArgs st_is_less, defBody st_is_less, defScope st_is_less⟩,
  ⟨("common", none), "common", "common", defArgs st_common, defBody st_common, defScope st_common⟩,
  ⟨("put", none), "put", "put", defArgs st_put, defBody st_put, defScope st_put⟩,
  ⟨("lasting", none), "lasting", "lasting", defArgs st_lasting, defBody st_lasting, defScope st_lasting⟩,
  ⟨("first_less", none), "first_less", "first_less", defArgs st_first_less, defBody st_first_less, defScope st_first_less⟩,
  ⟨("may_outlast", none), "may_outlast", "may_outlast", defArgs st_may_outlast, defBody st_may_outlast, defScope st_may_outlast⟩]
def fn1 : List DL.DfX := [⟨("must_outlast", none), "must_outlast", "must_outlast", defArgs st_must_outlast, defBody st_must_outlast, defScope st_must_outlast⟩,
  ⟨("are_truths", none), "are_truths", "are_truths", defArgs st_are_truths, defBody st_are_truths, defScope st_are_truths⟩,
  ⟨("shows_may", none), "shows_may", "shows_may", defArgs st_shows_may, defBody st_shows_may, defScope st_shows_may⟩,
  ⟨("shows_never", none), "shows_never", "shows_never", defArgs st_shows_never, defBody st_shows_never, defScope st_shows_never⟩,
  ⟨("shows_not", none), "shows_not", "shows_not", defArgs st_shows_not, defBody st_shows_not, defScope st_shows_not⟩,
  ⟨("_law_words", none), "_law_words", "_law_words", defArgs st__law_words, defBody st__law_words, defScope st__law_words⟩,
  ⟨("_law_whole", none), "_law_whole", "_law_whole", defArgs st__law_whole, defBody st__law_whole, defScope st__law_whole⟩,
  ⟨("_law_within", none), "_law_within", "_law_within", defArgs st__law_within, defBody st__law_within, defScope st__law_within⟩,
  ⟨("need_time", none), "need_time", "need_time", defArgs st_need_time, defBody st_need_time, defScope st_need_time⟩,
  ⟨("bounds", none), "bounds", "bounds", defArgs st_bounds, defBody st_bounds, defScope st_bounds⟩,
  ⟨("law", none), "law", "law", defArgs st_law, defBody st_law, defScope st_law⟩]
def fnS : List DL.DfX := fn0 ++ fn1
def tfS : List (Str × Option Str) := [("_law_alone", none), ("_law_words", none), ("law", none)]
def nm0 : List Str := ["SpanError", "NoBook", "NoTime", "NoShare", "NoParts", "NoPlain", "NoKind", "NoMarks", "NoWord", "NoFull", "NoNumber", "NoBand", "NoName", "NoDay", "NoDeed", "NoFraction", "NoText", "NoLine", "TooMany", "is_whole", "is_from_to", "common", "put", "is_less", "MOST_AGE", "MOST_SPANS", "MOST_TIME", "KINDS", "is_lasting", "is_span"]
def nm1 : List Str := ["is_book", "need_book", "need_plain", "need_time", "LATEST", "is_true_of", "is_truth_by", "is_truth", "lasting", "soonest_by", "latest_by", "bounds", "soonest", "latest", "first_less", "may_outlast", "must_outlast", "are_truths", "shows_may", "shows_never", "shows_not", "_law_cell_at", "_law_pot", "_law_take", "_law_whole", "_law_within", "_law_mixed", "_law_odd", "_law_refusal", "_law_said"]
def nm2 : List Str := ["_law_plain", "_law_no_books", "_law_words", "_law_alone"]
def nmS : List Str := nm0 ++ nm1 ++ nm2
abbrev RS : PySem.W.OpenRow := PySem.W.OpenLaw.row PySem.Challenge.rw_outlasts_k74_truths_refused
abbrev qS : Program := PySem.W.view RS.prog [69]
abbrev hkS : PySem.W.Hook := DL.hookX 4 faS fnS tfS
def obS (s : PySem.W.SharedT) : hkS.α := DL.obsX 4 faS fnS tfS (HandSHeadRun.getT s)
theorem obS_eq (s : PySem.W.SharedT) : obS s = hkS.obs s.abs := DL.obsX_eq (HandSHeadRun.getT_eq s)
theorem runF (w : World) : HandSHeadRun.RunEq RS qS hkS obS 12000 nmS (w.withFollow "special-get-raises" false) := by
  intro os
  kernel_rfl
theorem runT (w : World) : HandSHeadRun.RunEq RS qS hkS obS 12000 nmS (w.withFollow "special-get-raises" true) := by
  intro os
  kernel_rfl
theorem runS (w : World) : HandSHeadRun.RunEq RS qS hkS obS 12000 nmS w := PySem.W.byRow2 "special-get-raises" (P := fun w => HandSHeadRun.RunEq RS qS hkS obS 12000 nmS w) runF runT w
end Lw
namespace DL
open PySem L2
/-- the key of a dict as data -/
def kD : Key → PyData
  | .inl i => .int i
  | .inr x => .str x
/-- the key of a dict by tuples of whole numbers -/
def kT (k : List Int) : PyData := .tuple (k.map PyData.int)
/-- a dict known to the object -/
def DTo (a : Addr) (o : Obj) : HO := .ext fun h => h.get? a = some o
/-- its entries: key, the key's tuple, value -/
abbrev Ent := List Key × Addr × Value
structure EsOk (a : Addr) (o : Obj) (xs : List Ent) : Prop where
  sm : (a == sysModules) = false
  ex : o.ExactDict
  es : ∃ es ep, o.data = .dict es ep ∧ ∀ (P : Program) (w : World), es.toList = xs.map (entryOfKey (tupleKind (mixKind P w)))
  nd : (xs.map (·.1)).Nodup
  sz : xs.length ≤ sizeLine
  ne : xs ≠ []
/-- a list of the written part -/
def WrL (K : PySem.W.Frag) (a : Addr) (xs : List V) : Prop := ∃ its n, K.lookup a = some { cls := Value.type "list", data := Data.seq its n } ∧ its.size ≤ sizeLine ∧ Vals xs its.toList ∧ a ≠ sysModules
/-- a list to be read -/
def LsR (K : PySem.W.Frag) (H : Hp) (a : Addr) (xs : List V) : Prop := Rd H a (.lst xs) ∨ WrL K a xs
theorem LsR.sq {K : PySem.W.Frag} {H : Hp} {a : Addr} {xs : List V} (h : LsR K H a xs) : SqL K H a xs := by
  rcases h with h | ⟨its, n, h1, h2, h3, _⟩
  · exact .inl h
  · exact .inr ⟨_, its, n, h1, rfl, rfl, rfl, h2, h3⟩
mutual
/-- v reads as d; its lists and dicts stand in the region F of what is never changed -/
inductive DF (K : PySem.W.Frag) (H : Hp) (F : Addr → Prop) : V → PyData → Prop where
  | non : DF K H F .non .none
  | bl (b : Bool) : DF K H F (.bl b) (.bool b)
  | int (i : Int) : DF K H F (.int i) (.int i)
  | str (x : Str) : DF K H F (.str x) (.str x)
  | lst {a : Addr} {xs : List V} {ds : List PyData} : F a → Rd H a (.lst xs) → DFs K H F xs ds → DF K H F (.ref a) (.list ds)
  | lstK {a : Addr} {xs : List V} {ds : List PyData} : WrL K a xs → DFs K H F xs ds → DF K H F (.ref a) (.list ds)
  | tup {a : Addr} {xs : List V} {ds : List PyData} : SqT K H a xs → DFs K H F xs ds → DF K H F (.ref a) (.tuple ds)
  | dct {a : Addr} {ks : List (Key × V)} {ds : List (PyData × PyData)} : F a → H a = some (.dK ks) → DFk K H F ks ds → DF K H F (.ref a) (.dict ds)
  | dcT {a : Addr} {o : Obj} {xs : List Ent} {ds : List (PyData × PyData)} : F a → H a = some (DTo a o) → EsOk a o xs → DFt K H F xs ds → DF K H F (.ref a) (.dict ds)
inductive DFs (K : PySem.W.Frag) (H : Hp) (F : Addr → Prop) : List V → List PyData → Prop where
  | nil : DFs K H F [] []
  | cons {v : V} {d : PyData} {vs : List V} {ds : List PyData} : DF K H F v d → DFs K H F vs ds → DFs K H F (v :: vs) (d :: ds)
inductive DFk (K : PySem.W.Frag) (H : Hp) (F : Addr → Prop) : List (Key × V) → List (PyData × PyData) → Prop where
  | nil : DFk K H F [] []
  | cons {k : Key} {v : V} {d : PyData} {vs : List (Key × V)} {ds : List (PyData × PyData)} : DF K H F v d → DFk K H F vs ds → DFk K H F ((k, v) :: vs) ((kD k, d) :: ds)
inductive DFt (K : PySem.W.Frag) (H : Hp) (F : Addr → Prop) : List Ent → List (PyData × PyData) → Prop where
  | nil : DFt K H F [] []
  | cons {k : List Int} {q : Addr} {v : V} {u : Value} {d : PyData} {vs : List Ent} {ds : List (PyData × PyData)} : SqT K H q (k.map V.int) → L2.RelV v u → DF K H F v d → DFt K H F vs ds → DFt K H F ((k.map Sum.inl, q, u) :: vs) ((kT k, d) :: ds)
end
/-- an object that never changes by itself -/
def Still : HO → Prop
  | .tup _ => True
  | .frz _ _ => True
  | .xd _ => True
  | .ins _ _ _ => True
  | _ => False
/-- no table of code objects -/
def NT : HO → Prop
  | .tbl _ => False
  | _ => True
/-- neither a table nor a code object -/
def NC (o : HO) : Prop := NT o ∧ ∀ c q, o ≠ LamX.CodeO c q
/-- what the region and the still things hold stays -/
def Kept (F : Addr → Prop) (H H' : Hp) : Prop := ∀ b o, H b = some o → ((F b ∧ NT o) ∨ Still o) → H' b = some o
theorem Kept.refl {F : Addr → Prop} {H : Hp} : Kept F H H := fun _ _ h _ => h
theorem Kept.rdF {F : Addr → Prop} {H H' : Hp} {a : Addr} {u : HO} (k : Kept F H H') (hF : F a) (r : Rd H a u) (nt : NT u := by trivial) : Rd H' a u := by
  rcases r with r | ⟨o, r⟩
  · exact .inl (k _ _ r (.inl ⟨hF, nt⟩))
  · exact .inr ⟨o, k _ _ r (.inl ⟨hF, trivial⟩)⟩
theorem Kept.sqT {K : PySem.W.Frag} {F : Addr → Prop} {H H' : Hp} {a : Addr} {xs : List V} (k : Kept F H H') (r : SqT K H a xs) : SqT K H' a xs := by
  rcases r with (r | ⟨o, r⟩) | r
  · exact .inl (.inl (k _ _ r (.inr trivial)))
  · exact .inl (.inr ⟨o, k _ _ r (.inr trivial)⟩)
  · exact .inr r
section
variable {K : PySem.W.Frag} {H H' : Hp} {F F' : Addr → Prop}
mutual
theorem DF.mono (k : Kept F H H') (g : ∀ b, F b → F' b) : ∀ {v : V} {d : PyData}, DF K H F v d → DF K H' F' v d
  | _, _, .non => .non
  | _, _, .bl b => .bl b
  | _, _, .int i => .int i
  | _, _, .str x => .str x
  | _, _, .lst f r s => .lst (g _ f) (k.rdF f r) (DFs.mono k g s)
  | _, _, .lstK r s => .lstK r (DFs.mono k g s)
  | _, _, .tup r s => .tup (k.sqT r) (DFs.mono k g s)
  | _, _, .dct f r s => .dct (g _ f) (k _ _ r (.inl ⟨f, trivial⟩)) (DFk.mono k g s)
  | _, _, .dcT f r e s => .dcT (g _ f) (k _ _ r (.inl ⟨f, trivial⟩)) e (DFt.mono k g s)
theorem DFs.mono (k : Kept F H H') (g : ∀ b, F b → F' b) : ∀ {vs : List V} {ds : List PyData}, DFs K H F vs ds → DFs K H' F' vs ds
  | _, _, .nil => .nil
  | _, _, .cons a b => .cons (DF.mono k g a) (DFs.mono k g b)
theorem DFk.mono (k : Kept F H H') (g : ∀ b, F b → F' b) : ∀ {vs : List (Key × V)} {ds : List (PyData × PyData)}, DFk K H F vs ds → DFk K H' F' vs ds
  | _, _, .nil => .nil
  | _, _, .cons a b => .cons (DF.mono k g a) (DFk.mono k g b)
theorem DFt.mono (k : Kept F H H') (g : ∀ b, F b → F' b) : ∀ {vs : List Ent} {ds : List (PyData × PyData)}, DFt K H F vs ds → DFt K H' F' vs ds
  | _, _, .nil => .nil
  | _, _, .cons q r a b => .cons (k.sqT q) r (DF.mono k g a) (DFt.mono k g b)
end
theorem DFs.length : ∀ {vs : List V} {ds : List PyData}, DFs K H F vs ds → vs.length = ds.length
  | _, _, .nil => rfl
  | _, _, .cons _ b => by rw [List.length_cons, List.length_cons, DFs.length b]
theorem DFs.append : ∀ {vs us : List V} {ds es : List PyData}, DFs K H F vs ds → DFs K H F us es → DFs K H F (vs ++ us) (ds ++ es)
  | _, _, _, _, .nil, h => h
  | _, _, _, _, .cons a b, h => .cons a (DFs.append b h)
theorem DFs.get : ∀ {vs : List V} {ds : List PyData} {i : Nat} {d : PyData}, DFs K H F vs ds → ds[i]? = some d → ∃ v, vs[i]? = some v ∧ DF K H F v d
  | _, _, _, _, .nil, e => by simp at e
  | _, _, 0, _, .cons a _, e => by simp at e; subst e; exact ⟨_, rfl, a⟩
  | _, _, i + 1, d, .cons _ b, e => by
    obtain ⟨v, h1, h2⟩ := DFs.get (i := i) (d := d) b (by simpa using e)
    exact ⟨v, by simpa using h1, h2⟩
theorem DFs.set {v : V} {d : PyData} (h : DF K H F v d) : ∀ {vs : List V} {ds : List PyData} (i : Nat), DFs K H F vs ds → DFs K H F (vs.set i v) (ds.set i d)
  | _, _, _, .nil => .nil
  | _, _, 0, .cons _ b => .cons h b
  | _, _, i + 1, .cons a b => .cons a (DFs.set h i b)
theorem DFs.take : ∀ {vs : List V} {ds : List PyData} (n : Nat), DFs K H F vs ds → DFs K H F (vs.take n) (ds.take n)
  | _, _, 0, _ => .nil
  | _, _, _ + 1, .nil => .nil
  | _, _, n + 1, .cons a b => .cons a (DFs.take n b)
theorem DFs.drop : ∀ {vs : List V} {ds : List PyData} (n : Nat), DFs K H F vs ds → DFs K H F (vs.drop n) (ds.drop n)
  | _, _, 0, h => h
  | _, _, _ + 1, .nil => .nil
  | _, _, n + 1, .cons _ b => DFs.drop n b
theorem DFs.reverse : ∀ {vs : List V} {ds : List PyData}, DFs K H F vs ds → DFs K H F vs.reverse ds.reverse
  | _, _, .nil => .nil
  | _, _, .cons a b => by
    rw [List.reverse_cons, List.reverse_cons]
    exact DFs.append (DFs.reverse b) (.cons a .nil)
theorem DFs.dropLast {vs : List V} {ds : List PyData} (h : DFs K H F vs ds) : DFs K H F vs.dropLast ds.dropLast := by
  rw [List.dropLast_eq_take, List.dropLast_eq_take, h.length]
  exact h.take _
theorem DFs.of_ints : ∀ (ns : List Int), DFs K H F (ns.map V.int) (ns.map PyData.int)
  | [] => .nil
  | n :: r => .cons (.int n) (DFs.of_ints r)
theorem DFs.bools : ∀ {vs : List V} {ns : List Bool}, DFs K H F vs (ns.map PyData.bool) → vs = ns.map V.bl
  | _, [], .nil => rfl
  | _, n :: r, .cons a b => by
    cases a
    rw [List.map_cons, DFs.bools b]
end
/-- an object of an own class: what its lists hold -/
inductive OD where
  /-- a ledger -/
  | led (ts ss : List PyData)
  /-- a desk: its ledger -/
  | dsk (ts ss : List PyData)
  /-- a pair of a ledger and a list -/
  | pr (ts ss ds : List PyData)
  /-- a list of ledgers (b) or desks; none: the one is elsewhere just now -/
  | many (b : Bool) (xs : List (Option (List PyData × List PyData)))
inductive R where
  | dat (d : PyData)
  /-- a list or dict that one slot alone holds -/
  | own (d : PyData)
  /-- what slot i holds -/
  | slt (i : Nat)
  | fn (k : Nat)
  /-- a set of ints -/
  | st (xs : List Int)
  /-- an exception that was caught -/
  | ex (c : Nat) (fs : List PyData)
  /-- a new pair of two new lists -/
  | two (d e : PyData)
  /-- an object that one slot alone holds -/
  | obj (o : OD)
  /-- a list that an object in slot i holds: which one -/
  | prt (i k : Nat)
abbrev Rho := List (Option R)
/-- the text's own things: the written part, the defs' places, the classes' places -/
structure Tb where
  K : PySem.W.Frag
  w : World
  fa : Nat → Addr
  ca : Nat → Addr
  /-- the tables of the defs that make lambdas -/
  tb : List (Addr × Str) := []
  /-- the exception that a suite holds: its place, its class, its dict -/
  hot : Option (Addr × Nat × Option Addr) := none
  /-- the classes of ledgers and desks -/
  lc : Addr := 0
  dc : Addr := 0
/-- a list or a dict at a, held by one alone -/
def OwnAt (K : PySem.W.Frag) (H : Hp) (F : Addr → Prop) (a : Addr) : PyData → Prop
  | .list ds => ∃ vs, H a = some (.lst vs) ∧ DFs K H F vs ds
  | .dict ds => (∃ ks, H a = some (.dK ks) ∧ DFk K H F ks ds) ∨ ∃ o xs, H a = some (DTo a o) ∧ EsOk a o xs ∧ DFt K H F xs ds
  | _ => False
def SetAt (w : World) (H : Hp) (a : Addr) (xs : List Int) : Prop := ∃ S, H a = some (SetO w a S xs.length) ∧ xs.Nodup ∧ ∀ k, S k = true ↔ k ∈ xs
/-- an exception object's fields -/
def ExcR (T : Tb) (H : Hp) (cls : Value) (d : Option Addr) (c : Nat) (fs : List PyData) : Prop :=
  cls = .ref (T.ca c) ∧ match fs with
    | [] => d = none
    | [.int m, .int n] => ∃ x, d = some x ∧ H x = some (.xd [("most", .int n), ("many", .int m)])
    | _ => False
/-- the fields of a ledger -/
def ledF (t s : Addr) : List (Str × V) := [("tellings", .ref t), ("stood", .ref s)]
/-- a ledger; L: the places of its lists -/
def LedAt (T : Tb) (H : Hp) (F : Addr → Prop) (L : List Addr) (v : V) (ts ss : List PyData) : Prop :=
  ∃ a dx t s, v = .ref a ∧ L = [t, s] ∧ t ≠ s ∧ H a = some (.ins T.lc dx (ledF t s)) ∧ OwnAt T.K H F t (.list ts) ∧ OwnAt T.K H F s (.list ss)
def DskAt (T : Tb) (H : Hp) (F : Addr → Prop) (L : List Addr) (v : V) (ts ss : List PyData) : Prop :=
  ∃ b dx a, v = .ref b ∧ H b = some (.ins T.dc dx [("kept", .ref a)]) ∧ LedAt T H F L (.ref a) ts ss
def OneAt (T : Tb) (H : Hp) (F : Addr → Prop) (b : Bool) (L : List Addr) (v : V) (ts ss : List PyData) : Prop := if b = true then LedAt T H F L v ts ss else DskAt T H F L v ts ss
inductive ManyAt (T : Tb) (H : Hp) (F : Addr → Prop) (b : Bool) : List (List Addr) → List V → List (Option (List PyData × List PyData)) → Prop where
  | nil : ManyAt T H F b [] [] []
  | hole {v : V} {Ls : List (List Addr)} {vs : List V} {xs : List (Option (List PyData × List PyData))} : ManyAt T H F b Ls vs xs → ManyAt T H F b ([] :: Ls) (v :: vs) (none :: xs)
  | cons {L : List Addr} {v : V} {ts ss : List PyData} {Ls : List (List Addr)} {vs : List V} {xs : List (Option (List PyData × List PyData))} : OneAt T H F b L v ts ss → ManyAt T H F b Ls vs xs → ManyAt T H F b (L :: Ls) (v :: vs) (some (ts, ss) :: xs)
def ObjAt (T : Tb) (H : Hp) (F : Addr → Prop) (L : List Addr) (v : V) : OD → Prop
  | .led ts ss => LedAt T H F L v ts ss
  | .dsk ts ss => DskAt T H F L v ts ss
  | .pr ts ss ds => ∃ p a l L0, v = .ref p ∧ H p = some (.tup [.ref a, .ref l]) ∧ LedAt T H F L0 (.ref a) ts ss ∧ L = l :: L0 ∧ l ∉ L0 ∧ OwnAt T.K H F l (.list ds)
  | .many b xs => ∃ p vs Ls, v = .ref p ∧ F p ∧ H p = some (.lst vs) ∧ L = Ls.flatten ∧ Ls.flatten.Nodup ∧ ManyAt T H F b Ls vs xs
def SlotR (T : Tb) (H : Hp) (F : Addr → Prop) (oa : List Addr) (v : V) : R → Prop
  | .dat d => oa = [] ∧ DF T.K H F v d
  | .own d => ∃ a, oa = [a] ∧ v = .ref a ∧ OwnAt T.K H F a d
  | .slt _ => False
  | .fn k => oa = [] ∧ v = .ref (T.fa k)
  | .st xs => ∃ a, oa = [a] ∧ v = .ref a ∧ SetAt T.w H a xs
  | .ex c fs => oa = [] ∧ ∃ a d, v = .ref a ∧ T.hot = some (a, c, d) ∧ ExcR T H (.ref (T.ca c)) d c fs
  | .two _ _ => False
  | .obj o => ObjAt T H F oa v o
  | .prt _ _ => False
structure EnvR (T : Tb) (H : Hp) (F : Addr → Prop) (O : Nat → List Addr) (σ : L2.St) (ρ : Rho) : Prop where
  len : ρ.length = σ.length
  at_ : ∀ i r, ρ[i]? = some (some r) → ∃ v, σ[i]? = some (some v) ∧ SlotR T H F (O i) v r
  own : ∀ i a, a ∈ O i → ∃ r, ρ[i]? = some (some r)
  inj : ∀ i j a, a ∈ O i → a ∈ O j → i = j
  nf : ∀ i a, a ∈ O i → ¬ F a
  lv : ∀ b, F b → H b ≠ none
  tb : LamX.Tabs T.tb H
/-- what a stretch of the run leaves; s: whether slots may be stored in it -/
structure Ext (s : Bool) (H : Hp) (F : Addr → Prop) (O : Nat → List Addr) (H' : Hp) (F' : Addr → Prop) (O' : Nat → List Addr) : Prop where
  keep : ∀ b o, H b = some o → (∀ i, b ∉ O i) → NT o → H' b = some o
  live : ∀ b, H' b = none → H b = none
  grow : ∀ b, F b → F' b
  new : ∀ b, F' b → F b ∨ (∃ i, b ∈ O i) ∨ H b = none
  own : ∀ i b, b ∈ O' i → b ∈ O i ∨ (s = true ∧ ((∃ j, b ∈ O j) ∨ H b = none))
theorem Ext.refl {s : Bool} {H : Hp} {F : Addr → Prop} {O : Nat → List Addr} : Ext s H F O H F O :=
  ⟨fun _ _ h _ _ => h, fun _ h => h, fun _ h => h, fun _ h => .inl h, fun _ _ h => .inl h⟩
theorem Ext.ow {s : Bool} {H H' : Hp} {F F' : Addr → Prop} {O O' : Nat → List Addr} (x : Ext s H F O H' F' O') {i : Nat} {b : Addr} (h : b ∈ O' i) : (∃ j, b ∈ O j) ∨ H b = none :=
  (x.own i b h).elim (fun z => .inl ⟨i, z⟩) fun z => z.2
theorem Ext.up {s : Bool} {H H' : Hp} {F F' : Addr → Prop} {O O' : Nat → List Addr} (x : Ext false H F O H' F' O') : Ext s H F O H' F' O' :=
  ⟨x.keep, x.live, x.grow, x.new, fun i b h => (x.own i b h).elim .inl fun z => nomatch z.1⟩
theorem Ext.trans {s : Bool} {H H1 H2 : Hp} {F F1 F2 : Addr → Prop} {O O1 O2 : Nat → List Addr} (a : Ext s H F O H1 F1 O1) (b : Ext s H1 F1 O1 H2 F2 O2) : Ext s H F O H2 F2 O2 := by
  refine ⟨fun c o h n z => b.keep c o (a.keep c o h n z) (fun i e => ?_) z, fun c h => a.live c (b.live c h), fun c h => b.grow c (a.grow c h), fun c h => ?_, fun i c h => ?_⟩
  · rcases a.ow e with ⟨j, q⟩ | q
    · exact n j q
    · rw [h] at q; cases q
  · rcases b.new c h with q | ⟨i, q⟩ | q
    · exact a.new c q
    · rcases a.ow q with z | z
      · exact .inr (.inl z)
      · exact .inr (.inr z)
    · exact .inr (.inr (a.live c q))
  · rcases b.own i c h with q | ⟨hs, ⟨j, q⟩ | q⟩
    · exact a.own i c q
    · exact .inr ⟨hs, a.ow q⟩
    · exact .inr ⟨hs, .inr (a.live c q)⟩
section
variable {T : Tb} {H H' : Hp} {F F' : Addr → Prop} {O O' : Nat → List Addr} {σ : L2.St} {ρ : Rho}
theorem OwnAt.there {K : PySem.W.Frag} {a : Addr} : ∀ {d : PyData}, OwnAt K H F a d → ∃ o, H a = some o ∧ ¬ Still o
  | .list _, ⟨_, h, _⟩ => ⟨_, h, fun z => z⟩
  | .dict _, .inl ⟨_, h, _⟩ => ⟨_, h, fun z => z⟩
  | .dict _, .inr ⟨_, _, h, _⟩ => ⟨_, h, fun z => z⟩
theorem LedAt.there {L : List Addr} {v : V} {ts ss : List PyData} (h : LedAt T H F L v ts ss) {b : Addr} (hb : b ∈ L) : ∃ o, H b = some o ∧ ¬ Still o := by
  obtain ⟨a, dx, t, s, rfl, rfl, ne, h1, h2, h3⟩ := h
  simp only [List.mem_cons, List.not_mem_nil, or_false] at hb
  rcases hb with rfl | rfl
  · exact h2.there
  · exact h3.there
theorem OneAt.there {b : Bool} {L : List Addr} {v : V} {ts ss : List PyData} (h : OneAt T H F b L v ts ss) {c : Addr} (hc : c ∈ L) : ∃ o, H c = some o ∧ ¬ Still o := by
  unfold OneAt at h
  split at h
  · exact h.there hc
  · obtain ⟨_, _, _, _, _, h⟩ := h; exact h.there hc
theorem ManyAt.there {b : Bool} {Ls : List (List Addr)} {vs : List V} {xs : List (Option (List PyData × List PyData))} (h : ManyAt T H F b Ls vs xs) {c : Addr} (hc : c ∈ Ls.flatten) : ∃ o, H c = some o ∧ ¬ Still o := by
  induction h with
  | nil => cases hc
  | hole _ ih => exact ih (by simpa using hc)
  | cons q _ ih =>
    rw [List.flatten_cons, List.mem_append] at hc
    rcases hc with hc | hc
    · exact q.there hc
    · exact ih hc
theorem ObjAt.there {L : List Addr} {v : V} : ∀ {o : OD}, ObjAt T H F L v o → ∀ {b : Addr}, b ∈ L → ∃ o, H b = some o ∧ ¬ Still o
  | .led _ _, h, _, hb => LedAt.there h hb
  | .dsk _ _, ⟨_, _, _, _, _, h⟩, _, hb => h.there hb
  | .pr _ _ _, ⟨p, a, l, L0, _, _, h, e, _, q⟩, _, hb => by
    rw [e] at hb
    rcases List.mem_cons.mp hb with rfl | hb
    · exact q.there
    · exact h.there hb
  | .many _ _, ⟨p, vs, Ls, _, _, _, e, _, h⟩, _, hb => by
    rw [e] at hb
    exact h.there hb
theorem SetAt.there {w : World} {a : Addr} {xs : List Int} (h : SetAt w H a xs) : ∃ o, H a = some o ∧ ¬ Still o := by
  obtain ⟨S, h, _⟩ := h
  exact ⟨_, h, fun z => z⟩
/-- what a slot alone holds stands in the heap and may change -/
theorem SlotR.there {oa : List Addr} {v : V} {a : Addr} (h : a ∈ oa) : ∀ {r : R}, SlotR T H F oa v r → ∃ o, H a = some o ∧ ¬ Still o
  | .dat _, ⟨z, _⟩ => by rw [z] at h; cases h
  | .own _, ⟨b, z, _, q⟩ => by rw [z] at h; cases List.mem_singleton.mp h; exact q.there
  | .fn _, ⟨z, _⟩ => by rw [z] at h; cases h
  | .st _, ⟨b, z, _, q⟩ => by rw [z] at h; cases List.mem_singleton.mp h; exact q.there
  | .ex _ _, ⟨z, _⟩ => by rw [z] at h; cases h
  | .obj _, q => ObjAt.there q h
theorem EnvR.there (E : EnvR T H F O σ ρ) {i : Nat} {a : Addr} (h : a ∈ O i) : ∃ o, H a = some o ∧ ¬ Still o := by
  obtain ⟨r, e⟩ := E.own i a h
  obtain ⟨v, _, s⟩ := E.at_ i r e
  exact s.there h
theorem still_nt : ∀ {o : HO}, Still o → NT o
  | .tup _, _ => trivial
  | .frz _ _, _ => trivial
  | .xd _, _ => trivial
  | .ins _ _ _, _ => trivial
/-- a stretch keeps the region and the still things -/
theorem EnvR.kept {s : Bool} (E : EnvR T H F O σ ρ) (x : Ext s H F O H' F' O') : Kept F H H' := fun b o h q => x.keep b o h (fun i e => by
  rcases q with q | q
  · exact E.nf i b e q.1
  · obtain ⟨o', h', n⟩ := E.there e
    rw [h] at h'; cases h'
    exact n q) (q.elim (fun z => z.2) still_nt)
/-- a set's object is no code object -/
theorem set_nc {w : World} {a : Addr} {S : Int → Bool} {n : Nat} : NC (SetO w a S n) := by
  refine ⟨trivial, fun c q e => ?_⟩
  have e1 : (HO.ext fun h => SetR w h a S n) = HO.ext fun h => ∃ (oc : Obj) (vs : Array Value) (t : Tok), h.get? c = some oc ∧ oc.data = .fields vs ∧ vs[1]? = some (.str q t) := e
  injection e1 with e2
  by_cases hac : a = c
  · subst hac
    have g : Heap.get? ⟨Array.replicate (a + 1) ⟨.none, none, .fields #[.none, .str q default], #[]⟩, {}⟩ a = some ⟨.none, none, .fields #[.none, .str q default], #[]⟩ := by
      unfold Heap.get?
      simp
    have z := (congrFun e2 ⟨Array.replicate (a + 1) ⟨.none, none, .fields #[.none, .str q default], #[]⟩, {}⟩).mpr ⟨_, _, default, g, rfl, rfl⟩
    obtain ⟨o, es, ep, t, h1, _, h2, _⟩ := z
    rw [g] at h1
    cases h1
    cases h2
  · have g : Heap.get? ⟨((Array.replicate (a + c + 1) ⟨.none, none, .freed, #[]⟩).set! c ⟨.none, none, .fields #[.none, .str q default], #[]⟩), {}⟩ c = some ⟨.none, none, .fields #[.none, .str q default], #[]⟩ := by
      unfold Heap.get?
      simp [Array.getElem?_setIfInBounds]
      omega
    have g' : Heap.get? ⟨((Array.replicate (a + c + 1) ⟨.none, none, .freed, #[]⟩).set! c ⟨.none, none, .fields #[.none, .str q default], #[]⟩), {}⟩ a = none := by
      unfold Heap.get?
      simp [Array.getElem?_setIfInBounds, Ne.symm hac]
      rw [Array.getElem?_replicate, if_pos (by omega)]
    have z := (congrFun e2 _).mpr ⟨_, _, default, g, rfl, rfl⟩
    obtain ⟨o, es, ep, t, h1, _⟩ := z
    rw [g'] at h1
    cases h1
theorem lst_nc {vs : List V} : NC (.lst vs) := ⟨trivial, fun _ _ e => by unfold LamX.CodeO at e; cases e⟩
theorem dK_nc {vs : List (Key × V)} : NC (.dK vs) := ⟨trivial, fun _ _ e => by unfold LamX.CodeO at e; cases e⟩
theorem dTo_nc {a : Addr} {o : Obj} (x : o.ExactDict) (hd : ∃ es ep, o.data = .dict es ep) : NC (DTo a o) := by
  refine ⟨trivial, fun c q e => ?_⟩
  have e1 : (HO.ext fun h => h.get? a = some o) = HO.ext fun h => ∃ (oc : Obj) (vs : Array Value) (t : Tok), h.get? c = some oc ∧ oc.data = .fields vs ∧ vs[1]? = some (.str q t) := e
  injection e1 with e2
  obtain ⟨es, ep, hd⟩ := hd
  have g : Heap.get? ⟨((Array.replicate (a + 1) ⟨.none, none, .freed, #[]⟩).set! a o), {}⟩ a = some o := by
    unfold Heap.get?
    simp
    obtain ⟨oc, od, dt, sl⟩ := o
    simp only at hd
    subst hd
    rfl
  obtain ⟨oc, vs, t, h1, h2, _⟩ := (congrFun e2 _).mp g
  by_cases hac : c = a
  · subst hac
    rw [g] at h1
    cases h1
    rw [hd] at h2
    cases h2
  · have g' : Heap.get? ⟨((Array.replicate (a + 1) ⟨.none, none, .freed, #[]⟩).set! a o), {}⟩ c = none := by
      unfold Heap.get?
      simp [Array.getElem?_setIfInBounds, Ne.symm hac]
      by_cases hl : c < a + 1
      · rw [Array.getElem?_replicate, if_pos hl]
      · rw [Array.getElem?_replicate, if_neg hl]
    rw [g'] at h1
    cases h1
/-- what one alone holds is no table -/
theorem OwnAt.nc {K : PySem.W.Frag} {a : Addr} {o : HO} (ho : H a = some o) : ∀ {d : PyData}, OwnAt K H F a d → NC o
  | .list _, ⟨_, h, _⟩ => by rw [ho] at h; cases h; exact lst_nc
  | .dict _, .inl ⟨_, h, _⟩ => by rw [ho] at h; cases h; exact dK_nc
  | .dict _, .inr ⟨_, _, h, e, _⟩ => by
    rw [ho] at h
    cases h
    obtain ⟨es, ep, hd, _⟩ := e.es
    exact dTo_nc e.ex ⟨es, ep, hd⟩
theorem SetAt.nc {w : World} {a : Addr} {o : HO} {xs : List Int} (ho : H a = some o) (h : SetAt w H a xs) : NC o := by
  obtain ⟨S, h, _⟩ := h
  rw [ho] at h; cases h; exact set_nc
theorem LedAt.nc {L : List Addr} {v : V} {ts ss : List PyData} {o : HO} (h : LedAt T H F L v ts ss) {b : Addr} (hb : b ∈ L) (ho : H b = some o) : NC o := by
  obtain ⟨a, dx, t, s, rfl, rfl, ne, h1, h2, h3⟩ := h
  simp only [List.mem_cons, List.not_mem_nil, or_false] at hb
  rcases hb with rfl | rfl
  · exact h2.nc ho
  · exact h3.nc ho
theorem OneAt.nc {b : Bool} {L : List Addr} {v : V} {ts ss : List PyData} (h : OneAt T H F b L v ts ss) {c : Addr} {o : HO} (hc : c ∈ L) (ho : H c = some o) : NC o := by
  unfold OneAt at h
  split at h
  · exact h.nc hc ho
  · obtain ⟨_, _, _, _, _, h⟩ := h; exact h.nc hc ho
theorem ManyAt.nc {b : Bool} {Ls : List (List Addr)} {vs : List V} {xs : List (Option (List PyData × List PyData))} (h : ManyAt T H F b Ls vs xs) {c : Addr} {o : HO} (hc : c ∈ Ls.flatten) (ho : H c = some o) : NC o := by
  induction h with
  | nil => cases hc
  | hole _ ih => exact ih (by simpa using hc)
  | cons q _ ih =>
    rw [List.flatten_cons, List.mem_append] at hc
    rcases hc with hc | hc
    · exact q.nc hc ho
    · exact ih hc
theorem ObjAt.nc {L : List Addr} {v : V} {b : Addr} {u : HO} (hb : b ∈ L) (ho : H b = some u) : ∀ {o : OD}, ObjAt T H F L v o → NC u
  | .led _ _, h => LedAt.nc h hb ho
  | .dsk _ _, ⟨_, _, _, _, _, h⟩ => h.nc hb ho
  | .pr _ _ _, ⟨p, a, l, L0, _, _, h, e, _, q⟩ => by
    rw [e] at hb
    rcases List.mem_cons.mp hb with rfl | hb
    · exact q.nc ho
    · exact h.nc hb ho
  | .many _ _, ⟨p, vs, Ls, _, _, _, e, _, h⟩ => by
    rw [e] at hb
    exact h.nc hb ho
theorem SlotR.nc {oa : List Addr} {v : V} {a : Addr} {o : HO} (h : a ∈ oa) (ho : H a = some o) : ∀ {r : R}, SlotR T H F oa v r → NC o
  | .dat _, ⟨z, _⟩ => by rw [z] at h; cases h
  | .own _, ⟨b, z, _, q⟩ => by rw [z] at h; cases List.mem_singleton.mp h; exact q.nc ho
  | .fn _, ⟨z, _⟩ => by rw [z] at h; cases h
  | .st _, ⟨b, z, _, q⟩ => by rw [z] at h; cases List.mem_singleton.mp h; exact q.nc ho
  | .ex _ _, ⟨z, _⟩ => by rw [z] at h; cases h
  | .obj _, q => ObjAt.nc h ho q
theorem EnvR.nc (E : EnvR T H F O σ ρ) {i : Nat} {a : Addr} {o : HO} (h : a ∈ O i) (ho : H a = some o) : NC o := by
  obtain ⟨r, e⟩ := E.own i a h
  obtain ⟨v, _, s⟩ := E.at_ i r e
  exact s.nc h ho
/-- another object in the place of one that is no table -/
theorem tabs_put {L : List (Addr × Str)} {a : Addr} {o o' : HO} (t : LamX.Tabs L H) (ho : H a = some o) (n : NC o) : LamX.Tabs L (upd H a o') := fun p hp => by
  obtain ⟨ps, h1, h2, h3⟩ := t p hp
  have ne : p.1 ≠ a := fun z => by
    rw [z, ho] at h1
    cases h1
    exact n.1
  refine ⟨ps, by rw [upd_ne ne]; exact h1, h2, fun pos cv hc => ?_⟩
  obtain ⟨c, e1, e2⟩ := h3 pos cv hc
  refine ⟨c, e1, ?_⟩
  have nc : c ≠ a := fun z => by
    rw [z, ho] at e2
    cases e2
    exact n.2 _ _ rfl
  rw [upd_ne nc]
  exact e2
theorem ExcR.mono {cls : Value} {dx : Option Addr} {c : Nat} (k : Kept F H H') : ∀ {fs : List PyData}, ExcR T H cls dx c fs → ExcR T H' cls dx c fs
  | [], h => h
  | [.int _, .int _], ⟨h1, x, h2, h3⟩ => ⟨h1, x, h2, k _ _ h3 (.inr trivial)⟩
theorem OwnAt.mono {K : PySem.W.Frag} {a : Addr} (k : Kept F H H') (g : ∀ b, F b → F' b) (ha : ∀ o, H a = some o → H' a = some o) : ∀ {d : PyData}, OwnAt K H F a d → OwnAt K H' F' a d
  | .list _, ⟨vs, h, s⟩ => ⟨vs, ha _ h, s.mono k g⟩
  | .dict _, .inl ⟨vs, h, s⟩ => .inl ⟨vs, ha _ h, s.mono k g⟩
  | .dict _, .inr ⟨o, xs, h, e, s⟩ => .inr ⟨o, xs, ha _ h, e, s.mono k g⟩
theorem SetAt.mono {w : World} {a : Addr} {xs : List Int} (ha : ∀ o, H a = some o → H' a = some o) (h : SetAt w H a xs) : SetAt w H' a xs := by
  obtain ⟨S, h, q⟩ := h
  exact ⟨S, ha _ h, q⟩
theorem LedAt.mono {L : List Addr} {v : V} {ts ss : List PyData} (k : Kept F H H') (g : ∀ b, F b → F' b) (ha : ∀ a o, a ∈ L → H a = some o → H' a = some o) (h : LedAt T H F L v ts ss) : LedAt T H' F' L v ts ss := by
  obtain ⟨a, dx, t, s, rfl, rfl, ne, h1, h2, h3⟩ := h
  exact ⟨a, dx, t, s, rfl, rfl, ne, k _ _ h1 (.inr trivial), h2.mono k g (fun o => ha t o (by simp)), h3.mono k g fun o => ha s o (by simp)⟩
theorem OneAt.mono {b : Bool} {L : List Addr} {v : V} {ts ss : List PyData} (k : Kept F H H') (g : ∀ b, F b → F' b) (ha : ∀ a o, a ∈ L → H a = some o → H' a = some o) (h : OneAt T H F b L v ts ss) : OneAt T H' F' b L v ts ss := by
  unfold OneAt at h ⊢
  split at h
  · rename_i hb; rw [if_pos hb]; exact h.mono k g ha
  · rename_i hb
    rw [if_neg hb]
    obtain ⟨b, dx, a, h1, h2, h⟩ := h
    exact ⟨b, dx, a, h1, k _ _ h2 (.inr trivial), h.mono k g ha⟩
theorem ManyAt.mono {b : Bool} {Ls : List (List Addr)} {vs : List V} {xs : List (Option (List PyData × List PyData))} (k : Kept F H H') (g : ∀ b, F b → F' b) (h : ManyAt T H F b Ls vs xs) (ha : ∀ a o, a ∈ Ls.flatten → H a = some o → H' a = some o) : ManyAt T H' F' b Ls vs xs := by
  induction h with
  | nil => exact .nil
  | hole _ ih => exact .hole (ih fun a o h => ha a o (by simpa using h))
  | cons q _ ih => exact .cons (q.mono k g fun a o h => ha a o (by rw [List.flatten_cons, List.mem_append]; exact .inl h)) (ih fun a o h => ha a o (by rw [List.flatten_cons, List.mem_append]; exact .inr h))
theorem ObjAt.mono {L : List Addr} {v : V} (k : Kept F H H') (g : ∀ b, F b → F' b) (ha : ∀ a o, a ∈ L → H a = some o → H' a = some o) : ∀ {o : OD}, ObjAt T H F L v o → ObjAt T H' F' L v o
  | .led _ _, h => LedAt.mono k g ha h
  | .dsk _ _, ⟨b, dx, a, h1, h2, h⟩ => ⟨b, dx, a, h1, k _ _ h2 (.inr trivial), h.mono k g ha⟩
  | .pr _ _ _, ⟨p, a, l, L0, h1, h2, h, e, n, q⟩ => ⟨p, a, l, L0, h1, k _ _ h2 (.inr trivial), h.mono k g (fun b o hb => ha b o (by rw [e]; exact List.mem_cons_of_mem _ hb)), e, n, q.mono k g fun o => ha l o (by rw [e]; exact List.mem_cons_self)⟩
  | .many _ _, ⟨p, vs, Ls, h1, h2, h3, e, n, h⟩ => ⟨p, vs, Ls, h1, g _ h2, k _ _ h3 (.inl ⟨h2, trivial⟩), e, n, h.mono k g fun b o hb => ha b o (by rw [e]; exact hb)⟩
theorem SlotR.mono {oa : List Addr} {v : V} (k : Kept F H H') (g : ∀ b, F b → F' b) (ha : ∀ a o, a ∈ oa → H a = some o → H' a = some o) : ∀ {r : R}, SlotR T H F oa v r → SlotR T H' F' oa v r
  | .dat _, ⟨h1, h2⟩ => ⟨h1, h2.mono k g⟩
  | .own _, ⟨a, h1, h2, h3⟩ => ⟨a, h1, h2, h3.mono k g fun o => ha a o (by rw [h1]; exact List.mem_singleton.mpr rfl)⟩
  | .fn _, h => h
  | .st _, ⟨a, h1, h2, h3⟩ => ⟨a, h1, h2, h3.mono fun o => ha a o (by rw [h1]; exact List.mem_singleton.mpr rfl)⟩
  | .ex _ _, ⟨h1, a, d, h2, h3, h4⟩ => ⟨h1, a, d, h2, h3, h4.mono k⟩
  | .obj _, h => ObjAt.mono k g ha h
/-- the slots stand over a heap that has grown -/
theorem EnvR.grown (E : EnvR T H F O σ ρ) (k : ∀ b o, H b = some o → H' b = some o) (g : ∀ b, F b → F' b) (n : ∀ i a, a ∈ O i → ¬ F' a) (l : ∀ b, F' b → H' b ≠ none) : EnvR T H' F' O σ ρ :=
  ⟨E.len, fun i r e => let ⟨v, h1, h2⟩ := E.at_ i r e; ⟨v, h1, h2.mono (fun b o h _ => k b o h) g fun a o _ h => k a o h⟩, E.own, E.inj, n, l, E.tb.ext k⟩
end
/-- a new object -/
theorem kept_new {H : Hp} {p : Addr} {o : HO} (hp : H p = none) : ∀ b u, H b = some u → upd H p o b = some u := fun b u e => by
  rw [upd_ne (ne_of_none e hp)]; exact e
section
variable {T : Tb} {H : Hp} {F : Addr → Prop} {O : Nat → List Addr} {σ : L2.St} {ρ : Rho} {p : Addr} {o : HO}
theorem EnvR.ne_new (E : EnvR T H F O σ ρ) (hp : H p = none) : ∀ i, p ∉ O i := fun i e => by
  obtain ⟨u, h, _⟩ := E.there e
  rw [hp] at h; cases h
/-- a new object that is nobody's, or goes into the region -/
theorem live_new (hp : H p = none) : ∀ b, H b ≠ none → upd H p o b ≠ none := fun b h => by
  cases q : H b with
  | none => exact absurd q h
  | some u => rw [kept_new hp b u q]; simp
theorem EnvR.laid (E : EnvR T H F O σ ρ) (hp : H p = none) : EnvR T (upd H p o) F O σ ρ := E.grown (kept_new hp) (fun _ h => h) E.nf fun b h => live_new hp b (E.lv b h)
theorem Ext.laid {s : Bool} (hp : H p = none) : Ext s H F O (upd H p o) F O :=
  ⟨fun b u h _ _ => kept_new hp b u h, fun b h => by
    by_cases e : b = p
    · subst e; exact hp
    · rw [upd_ne e] at h; exact h, fun _ h => h, fun _ h => .inl h, fun _ _ h => .inl h⟩
end
end DL
namespace DL
open PySem L2
/-- an end of a piece: a thing and the slots, or an exception -/
inductive Oe (α : Type) where
  | ok (a : α) (ρ : Rho)
  | er (c : Nat) (fs : List PyData) (ρ : Rho)
abbrev EM := Rho → Option (Oe R)
abbrev AM := Rho → Option (Oe (List R))
def bindO {α β : Type} (o : Option (Oe α)) (g : α → Rho → Option (Oe β)) : Option (Oe β) :=
  match o with
  | some (.ok a ρ) => g a ρ
  | some (.er c fs ρ) => some (.er c fs ρ)
  | none => none
@[simp] theorem bindO_ok {α β : Type} (a : α) (ρ : Rho) (g : α → Rho → Option (Oe β)) : bindO (some (.ok a ρ)) g = g a ρ := rfl
@[simp] theorem bindO_er {α β : Type} (c : Nat) (fs : List PyData) (ρ : Rho) (g : α → Rho → Option (Oe β)) : bindO (some (.er c fs ρ)) g = some (.er c fs ρ) := rfl
@[simp] theorem bindO_none {α β : Type} (g : α → Rho → Option (Oe β)) : bindO none g = none := rfl
/-- what a slot holds, as data -/
def slotD : Option (Option R) → Option PyData
  | some (some (.dat d)) => some d
  | some (some (.own d)) => some d
  | _ => none
/-- what a part of a ledger in a slot holds -/
def partD (k : Nat) : Option (Option R) → Option PyData
  | some (some (.obj (.led ts ss))) => some (.list (if k = 0 then ts else ss))
  | _ => none
/-- a result as data, as it stands now -/
def val (ρ : Rho) : R → Option PyData
  | .dat d => some d
  | .own d => some d
  | .slt i => slotD ρ[i]?
  | .prt i k => partD k ρ[i]?
  | _ => none
/-- a result as data that stays: what one slot held alone is so no more -/
def frz (ρ : Rho) : R → Option (PyData × Rho)
  | .dat d => some (d, ρ)
  | .own d => some (d, ρ)
  | .slt i => (slotD ρ[i]?).map fun d => (d, ρ.set i (some (.dat d)))
  | _ => none
/-- v is the result r; what is new in it is new since H0 -/
def ResR (T : Tb) (H0 H : Hp) (F : Addr → Prop) (O : Nat → List Addr) (σ : L2.St) (v : V) : R → Prop
  | .dat d => DF T.K H F v d
  | .own d => ∃ a, v = .ref a ∧ H0 a = none ∧ ¬ F a ∧ (∀ i, a ∉ O i) ∧ OwnAt T.K H F a d
  | .slt i => σ[i]? = some (some v)
  | .fn k => v = .ref (T.fa k)
  | .st xs => ∃ a, v = .ref a ∧ H0 a = none ∧ ¬ F a ∧ (∀ i, a ∉ O i) ∧ SetAt T.w H a xs
  | .ex c fs => ∃ a dx, v = .ref a ∧ T.hot = some (a, c, dx) ∧ ExcR T H (.ref (T.ca c)) dx c fs
  | .two d e => ∃ p a b, v = .ref p ∧ H p = some (.tup [.ref a, .ref b]) ∧ a ≠ b ∧ (H0 a = none ∧ ¬ F a ∧ (∀ i, a ∉ O i) ∧ OwnAt T.K H F a d) ∧ (H0 b = none ∧ ¬ F b ∧ (∀ i, b ∉ O i) ∧ OwnAt T.K H F b e)
  | .obj o => ∃ L, (∀ b, b ∈ L → H0 b = none ∧ ¬ F b ∧ ∀ i, b ∉ O i) ∧ ObjAt T H F L v o
  | .prt i k => ∃ a dx t s, σ[i]? = some (some (.ref a)) ∧ H a = some (.ins T.lc dx (ledF t s)) ∧ v = .ref (if k = 0 then t else s)
/-- v reads as d just now -/
def Vw (T : Tb) (H : Hp) (F : Addr → Prop) (v : V) (d : PyData) : Prop := DF T.K H F v d ∨ ∃ a, v = .ref a ∧ OwnAt T.K H F a d
section
variable {T : Tb} {H0 H H' : Hp} {F F' : Addr → Prop} {O O' : Nat → List Addr} {σ : L2.St} {ρ : Rho} {v : V} {d : PyData}
theorem own_ext {s : Bool} (E : EnvR T H F O σ ρ) (x : Ext s H F O H' F' O') {a : Addr} {d : PyData} (h3 : ¬ F a) (h4 : ∀ i, a ∉ O i) (h5 : OwnAt T.K H F a d) : ¬ F' a ∧ (∀ i, a ∉ O' i) ∧ OwnAt T.K H' F' a d := by
  obtain ⟨o, ho, _⟩ := h5.there
  refine ⟨fun q => ?_, fun i q => ?_, h5.mono (E.kept x) x.grow fun o h => x.keep a o h h4 (h5.nc h).1⟩
  · rcases x.new a q with z | ⟨i, z⟩ | z
    · exact h3 z
    · exact h4 i z
    · rw [ho] at z; cases z
  · rcases x.ow q with ⟨j, z⟩ | z
    · exact h4 j z
    · rw [ho] at z; cases z
theorem obj_ext {s : Bool} (E : EnvR T H F O σ ρ) (x : Ext s H F O H' F' O') {L : List Addr} {o : OD} (h : ∀ b, b ∈ L → H0 b = none ∧ ¬ F b ∧ ∀ i, b ∉ O i) (q : ObjAt T H F L v o) : (∀ b, b ∈ L → H0 b = none ∧ ¬ F' b ∧ ∀ i, b ∉ O' i) ∧ ObjAt T H' F' L v o := by
  refine ⟨fun b hb => ?_, q.mono (E.kept x) x.grow fun b o' hb ho => x.keep b o' ho (h b hb).2.2 (ObjAt.nc hb ho q).1⟩
  obtain ⟨o', ho, _⟩ := q.there hb
  obtain ⟨h1, h2, h3⟩ := h b hb
  refine ⟨h1, fun z => ?_, fun i z => ?_⟩
  · rcases x.new b z with y | ⟨i, y⟩ | y
    · exact h2 y
    · exact h3 i y
    · rw [ho] at y; cases y
  · rcases x.ow z with ⟨j, y⟩ | y
    · exact h3 j y
    · rw [ho] at y; cases y
theorem ResR.mono {s : Bool} (E : EnvR T H F O σ ρ) (x : Ext s H F O H' F' O') : ∀ {r : R}, ResR T H0 H F O σ v r → ResR T H0 H' F' O' σ v r
  | .dat _, h => DF.mono (E.kept x) x.grow h
  | .own _, ⟨a, h1, h2, h3, h4, h5⟩ => by
    obtain ⟨o, ho, _⟩ := h5.there
    refine ⟨a, h1, h2, fun q => ?_, fun i q => ?_, h5.mono (E.kept x) x.grow fun o h => x.keep a o h h4 (h5.nc h).1⟩
    · rcases x.new a q with z | ⟨i, z⟩ | z
      · exact h3 z
      · exact h4 i z
      · rw [ho] at z; cases z
    · rcases x.ow q with ⟨j, z⟩ | z
      · exact h4 j z
      · rw [ho] at z; cases z
  | .slt _, h => h
  | .fn _, h => h
  | .st _, ⟨a, h1, h2, h3, h4, h5⟩ => by
    obtain ⟨o, ho, _⟩ := h5.there
    refine ⟨a, h1, h2, fun q => ?_, fun i q => ?_, h5.mono fun o h => x.keep a o h h4 (h5.nc h).1⟩
    · rcases x.new a q with z | ⟨i, z⟩ | z
      · exact h3 z
      · exact h4 i z
      · rw [ho] at z; cases z
    · rcases x.ow q with ⟨j, z⟩ | z
      · exact h4 j z
      · rw [ho] at z; cases z
  | .ex _ _, ⟨a, dx, h1, h2, h3⟩ => ⟨a, dx, h1, h2, h3.mono (E.kept x)⟩
  | .two _ _, ⟨p, a, b, h1, h2, h3, ⟨a1, a2, a3, a4⟩, b1, b2, b3, b4⟩ => ⟨p, a, b, h1, E.kept x _ _ h2 (.inr trivial), h3, ⟨a1, own_ext E x a2 a3 a4⟩, b1, own_ext E x b2 b3 b4⟩
  | .obj _, ⟨L, h1, h2⟩ => ⟨L, obj_ext E x h1 h2⟩
  | .prt _ _, ⟨a, dx, t, s, h1, h2, h3⟩ => ⟨a, dx, t, s, h1, E.kept x _ _ h2 (.inr trivial), h3⟩
/-- new since later is new since earlier -/
theorem ResR.back {H1 : Hp} (l : ∀ b, H1 b = none → H0 b = none) : ∀ {r : R}, ResR T H1 H F O σ v r → ResR T H0 H F O σ v r
  | .dat _, h => h
  | .own _, ⟨a, h1, h2, h3⟩ => ⟨a, h1, l a h2, h3⟩
  | .slt _, h => h
  | .fn _, h => h
  | .st _, ⟨a, h1, h2, h3⟩ => ⟨a, h1, l a h2, h3⟩
  | .ex _ _, h => h
  | .two _ _, ⟨p, a, b, h1, h2, h3, ⟨a1, a2⟩, b1, b2⟩ => ⟨p, a, b, h1, h2, h3, ⟨l a a1, a2⟩, l b b1, b2⟩
  | .obj _, ⟨L, h1, h2⟩ => ⟨L, fun b hb => ⟨l b (h1 b hb).1, (h1 b hb).2⟩, h2⟩
  | .prt _ _, h => h
theorem slot_vw (E : EnvR T H F O σ ρ) {i : Nat} (hv : σ[i]? = some (some v)) (h : slotD ρ[i]? = some d) : Vw T H F v d := by
  cases q : ρ[i]? with
  | none => rw [q] at h; cases h
  | some o =>
    cases o with
    | none => rw [q] at h; cases h
    | some r =>
      obtain ⟨u, hu, s⟩ := E.at_ i r q
      rw [hv] at hu; cases hu
      rw [q] at h
      cases r with
      | dat e => cases h; exact .inl s.2
      | own e => cases h; obtain ⟨a, _, h2, h3⟩ := s; exact .inr ⟨a, h2, h3⟩
      | slt j => cases h
      | fn k => cases h
      | st xs => cases h
      | ex c fs => cases h
      | two d e => cases h
      | obj o => cases h
      | prt i k => cases h
theorem part_vw (E : EnvR T H F O σ ρ) {i k : Nat} (hv : ResR T H0 H F O σ v (.prt i k)) (h : partD k ρ[i]? = some d) : Vw T H F v d := by
  unfold partD at h
  split at h
  · rename_i ts ss q
    cases h
    obtain ⟨u, hu, a, dx, t, s, e1, e2, e3, e4, e5, e6⟩ := E.at_ i _ q
    obtain ⟨a', dx', t', s', g1, g2, g3⟩ := hv
    rw [g1] at hu
    cases hu
    cases e1
    rw [e4] at g2
    cases g2
    rw [g3]
    by_cases hk : k = 0
    · rw [if_pos hk, if_pos hk]; exact .inr ⟨_, rfl, e5⟩
    · rw [if_neg hk, if_neg hk]; exact .inr ⟨_, rfl, e6⟩
  · cases h
theorem val_vw (E : EnvR T H F O σ ρ) : ∀ {r : R}, ResR T H0 H F O σ v r → val ρ r = some d → Vw T H F v d
  | .dat _, h, e => by cases e; exact .inl h
  | .own _, ⟨a, h1, _, _, _, h5⟩, e => by cases e; exact .inr ⟨a, h1, h5⟩
  | .slt _, h, e => slot_vw E h e
  | .prt _ _, h, e => part_vw E h e
theorem Vw.non (h : Vw T H F v .none) : v = .non := by
  rcases h with h | ⟨_, _, h⟩
  · cases h; rfl
  · exact h.elim
theorem Vw.bl {b : Bool} (h : Vw T H F v (.bool b)) : v = .bl b := by
  rcases h with h | ⟨_, _, h⟩
  · cases h; rfl
  · exact h.elim
theorem Vw.int {i : Int} (h : Vw T H F v (.int i)) : v = .int i := by
  rcases h with h | ⟨_, _, h⟩
  · cases h; rfl
  · exact h.elim
theorem Vw.str {x : Str} (h : Vw T H F v (.str x)) : v = .str x := by
  rcases h with h | ⟨_, _, h⟩
  · cases h; rfl
  · exact h.elim
theorem Vw.tup {ds : List PyData} (h : Vw T H F v (.tuple ds)) : ∃ a xs, v = .ref a ∧ SqT T.K H a xs ∧ DFs T.K H F xs ds := by
  rcases h with h | ⟨_, _, h⟩
  · cases h with
    | tup r s => exact ⟨_, _, rfl, r, s⟩
  · exact h.elim
theorem Vw.lst {ds : List PyData} (h : Vw T H F v (.list ds)) : ∃ a xs, v = .ref a ∧ LsR T.K H a xs ∧ DFs T.K H F xs ds := by
  rcases h with h | ⟨a, e, xs, h, s⟩
  · cases h with
    | lst f r s => exact ⟨_, _, rfl, .inl r, s⟩
    | lstK r s => exact ⟨_, _, rfl, .inr r, s⟩
  · exact ⟨a, xs, e, .inl (.inl h), s⟩
theorem Vw.dctA {ds : List (PyData × PyData)} (h : Vw T H F v (.dict ds)) : ∃ a, v = .ref a ∧ ((∃ xs, Rd H a (.dK xs) ∧ DFk T.K H F xs ds) ∨ ∃ o xs, H a = some (DTo a o) ∧ EsOk a o xs ∧ DFt T.K H F xs ds) := by
  rcases h with h | ⟨a, e, ⟨xs, h, s⟩ | ⟨o, xs, h, q, s⟩⟩
  · cases h with
    | dct f r s => exact ⟨_, rfl, .inl ⟨_, .inl r, s⟩⟩
    | dcT f r e s => exact ⟨_, rfl, .inr ⟨_, _, r, e, s⟩⟩
  · exact ⟨a, e, .inl ⟨xs, .inl h, s⟩⟩
  · exact ⟨a, e, .inr ⟨o, xs, h, q, s⟩⟩
theorem vw_fz {i : Nat} {a : Addr} (E : EnvR T H F O σ ρ) (h : O i = [a]) (hv : σ[i]? = some (some (.ref a))) {F' : Addr → Prop} (hF : ∀ b, F' b ↔ F b ∨ b = a) (hd : DF T.K H F' (.ref a) d) :
    EnvR T H F' (fun j => if j = i then [] else O j) σ (ρ.set i (some (.dat d))) := by
  have ha : a ∈ O i := by rw [h]; exact List.mem_singleton.mpr rfl
  obtain ⟨r, er⟩ := E.own i a ha
  have hi : i < ρ.length := by
    have := List.getElem?_eq_some_iff.mp er
    exact this.1
  refine ⟨by rw [List.length_set]; exact E.len, fun j r' e => ?_, fun j b e => ?_, fun j k b e1 e2 => ?_, fun j b e q => ?_, fun b q => ?_, E.tb⟩
  · by_cases hj : j = i
    · subst hj
      rw [List.getElem?_set_self hi] at e
      cases e
      exact ⟨_, hv, if_pos rfl, hd⟩
    · rw [List.getElem?_set_ne (Ne.symm hj)] at e
      obtain ⟨v, hv, s⟩ := E.at_ j r' e
      refine ⟨v, hv, ?_⟩
      rw [if_neg hj]
      exact s.mono (fun _ _ h _ => h) (fun b z => (hF b).mpr (.inl z)) fun _ _ _ h => h
  · by_cases hj : j = i
    · rw [if_pos hj] at e; cases e
    · rw [if_neg hj] at e
      obtain ⟨r', q⟩ := E.own j b e
      exact ⟨r', by rw [List.getElem?_set_ne (Ne.symm hj)]; exact q⟩
  · by_cases hj : j = i
    · rw [if_pos hj] at e1; cases e1
    · by_cases hk : k = i
      · rw [if_pos hk] at e2; cases e2
      · rw [if_neg hj] at e1
        rw [if_neg hk] at e2
        exact E.inj j k b e1 e2
  · by_cases hj : j = i
    · rw [if_pos hj] at e; cases e
    · rw [if_neg hj] at e
      rcases (hF b).mp q with z | z
      · exact E.nf j b e z
      · subst z; exact hj (E.inj j i b e ha)
  · rcases (hF b).mp q with z | z
    · exact E.lv b z
    · subst z
      obtain ⟨o, ho, _⟩ := E.there ha
      rw [ho]; simp
theorem OwnAt.df {a : Addr} (f : F a) : ∀ {d : PyData}, OwnAt T.K H F a d → DF T.K H F (.ref a) d
  | .list _, ⟨_, h, s⟩ => .lst f (.inl h) s
  | .dict _, .inl ⟨_, h, s⟩ => .dct f h s
  | .dict _, .inr ⟨_, _, h, e, s⟩ => .dcT f h e s
theorem Vw.dK {ds : List (PyData × PyData)} (h : Vw T H F v (.dict ds)) : ∃ a, v = .ref a ∧ ((∃ xs, H a = some (.dK xs) ∧ DFk T.K H F xs ds) ∨ ∃ o xs, H a = some (DTo a o) ∧ EsOk a o xs ∧ DFt T.K H F xs ds) := by
  rcases h with h | ⟨a, e, ⟨xs, h, s⟩ | ⟨o, xs, h, q, s⟩⟩
  · cases h with
    | dct f r s => exact ⟨_, rfl, .inl ⟨_, r, s⟩⟩
    | dcT f r e s => exact ⟨_, rfl, .inr ⟨_, _, r, e, s⟩⟩
  · exact ⟨a, e, .inl ⟨xs, h, s⟩⟩
  · exact ⟨a, e, .inr ⟨o, xs, h, q, s⟩⟩
/-- a slot that holds data may be set to them -/
theorem EnvR.setD {i : Nat} (E : EnvR T H F O σ ρ) (h : ρ[i]? = some (some (.dat d))) : EnvR T H F O σ (ρ.set i (some (.dat d))) := by
  have e : ρ.set i (some (.dat d)) = ρ := by
    refine List.ext_getElem? fun j => ?_
    by_cases hj : j = i
    · subst hj
      rw [List.getElem?_set_self (List.getElem?_eq_some_iff.mp h).1, h]
    · rw [List.getElem?_set_ne (Ne.symm hj)]
  rw [e]
  exact E
/-- a result is made data that stays -/
theorem fz {t : Bool} {B : Hp} {FB : Addr → Prop} {OB : Nat → List Addr} (x : Ext t B FB OB H F O) (l : ∀ b, H0 b = none → B b = none) (E : EnvR T H F O σ ρ) {ρ' : Rho} : ∀ {r : R}, ResR T H0 H F O σ v r → frz ρ r = some (d, ρ') →
    ∃ F' O', Ext t B FB OB H F' O' ∧ EnvR T H F' O' σ ρ' ∧ DF T.K H F' v d ∧ (∀ b, F b → F' b) ∧ (∀ i a, a ∈ O' i → a ∈ O i) ∧ ∀ b, F' b → F b ∨ (∃ i, b ∈ O i) ∨ H0 b = none
  | .dat _, h, e => by cases e; exact ⟨F, O, x, E, h, fun _ h => h, fun _ _ h => h, fun _ h => .inl h⟩
  | .own _, ⟨a, h1, h2, h3, h4, h5⟩, e => by
    cases e
    have nf : ∀ i b, b ∈ O i → ¬ (F b ∨ b = a) := fun i b q z => z.elim (E.nf i b q) fun y => h4 i (y ▸ q)
    obtain ⟨o, ho, _⟩ := h5.there
    have lv : ∀ b, (F b ∨ b = a) → H b ≠ none := fun b h => h.elim (E.lv b) fun z => by rw [z, ho]; simp
    refine ⟨fun b => F b ∨ b = a, O, ⟨x.keep, x.live, fun b h => .inl (x.grow b h), fun b h => ?_, x.own⟩, E.grown (fun _ _ h => h) (fun _ h => .inl h) nf lv, ?_, fun _ h => .inl h, fun _ _ h => h, fun b h => h.elim .inl fun z => .inr (.inr (z ▸ h2))⟩
    · rcases h with h | rfl
      · exact x.new b h
      · exact .inr (.inr (l b h2))
    · rw [h1]
      exact OwnAt.df (F := fun b => F b ∨ b = a) (.inr rfl) (h5.mono (fun _ _ h _ => h) (fun _ h => .inl h) fun _ h => h)
  | .slt i, h, e => by
    have e' : (slotD ρ[i]?).map (fun d => (d, ρ.set i (some (.dat d)))) = some (d, ρ') := e
    cases q : ρ[i]? with
    | none => rw [q] at e'; cases e'
    | some o =>
      cases o with
      | none => rw [q] at e'; cases e'
      | some r =>
        obtain ⟨u, hu, s⟩ := E.at_ i r q
        have h' : σ[i]? = some (some v) := h
        rw [h'] at hu
        cases hu
        rw [q] at e'
        cases r with
        | dat e =>
          cases e'
          exact ⟨F, O, x, E.setD q, s.2, fun _ h => h, fun _ _ h => h, fun _ h => .inl h⟩
        | own e =>
          cases e'
          obtain ⟨a, z1, z2, z3⟩ := s
          have zm : a ∈ O i := by rw [z1]; exact List.mem_singleton.mpr rfl
          subst z2
          have hd : DF T.K H (fun b => F b ∨ b = a) (.ref a) d := OwnAt.df (F := fun b => F b ∨ b = a) (.inr rfl) (z3.mono (fun _ _ h _ => h) (fun _ h => .inl h) fun _ h => h)
          refine ⟨fun b => F b ∨ b = a, fun j => if j = i then [] else O j, ⟨x.keep, x.live, fun b h => .inl (x.grow b h), fun b h => ?_, fun j b e => ?_⟩, vw_fz E z1 h' (fun _ => Iff.rfl) hd, hd, fun _ h => .inl h, fun j b q => ?_, fun b h => h.elim .inl fun z => .inr (.inl ⟨i, z ▸ zm⟩)⟩
          · rcases h with h | rfl
            · exact x.new b h
            · exact .inr (x.ow zm)
          · by_cases hj : j = i
            · rw [if_pos hj] at e; cases e
            · rw [if_neg hj] at e
              exact x.own j b e
          · have q' : b ∈ (if j = i then [] else O j) := q
            by_cases hj : j = i
            · rw [if_pos hj] at q'; cases q'
            · rw [if_neg hj] at q'; exact q'
        | slt j => cases e'
        | fn k => cases e'
        | st xs => cases e'
        | ex c fs => cases e'
        | two d e => cases e'
        | obj o => cases e'
        | prt i k => cases e'
end
abbrev Reg := Addr → Prop
abbrev Ows := Nat → List Addr
/-- how a thing β of the run tells a thing α of ours: since the heap, at the heap, the region, the owners -/
abbrev Tell (α β : Type) := L2.St → Hp → Hp → Reg → Ows → β → α → Prop
/-- the wish of what stands behind a piece -/
def Post {α β : Type} (T : Tb) (W : WX) (Rl : Tell α β) (σ : L2.St) (H : Hp) (F : Reg) (O : Ows) (Q : β → Hp → Prop) : Option (Oe α) → Prop
  | some (.ok a ρ) => ∀ v H' F' O', Ext false H F O H' F' O' → EnvR T H' F' O' σ ρ → Rl σ H H' F' O' v a → Q v H'
  | some (.er c fs ρ) => ∀ cls d H' F' O', Ext false H F O H' F' O' → EnvR T H' F' O' σ ρ → ExcR T H' cls d c fs → W cls d σ H'
  | none => False
/-- a piece's reading -/
def Tof {α β : Type} (T : Tb) (W : WX) (Rl : Tell α β) (f : Rho → Option (Oe α)) : L2.St → Hp → (β → Hp → Prop) → Prop := fun σ H Q =>
  ∃ ρ F O, EnvR T H F O σ ρ ∧ Post T W Rl σ H F O Q (f ρ)
def tlE (T : Tb) : Tell R V := fun σ H0 H F O v r => ResR T H0 H F O σ v r
def tlB : Tell Bool Bool := fun _ _ _ _ _ b c => b = c
inductive ResRs (T : Tb) (H0 H : Hp) (F : Reg) (O : Ows) (σ : L2.St) : List V → List R → Prop where
  | nil : ResRs T H0 H F O σ [] []
  | cons {v : V} {r : R} {vs : List V} {rs : List R} : ResR T H0 H F O σ v r → ResRs T H0 H F O σ vs rs → ResRs T H0 H F O σ (v :: vs) (r :: rs)
def tlA (T : Tb) : Tell (List R) (List V) := fun σ H0 H F O v r => ResRs T H0 H F O σ v r
section
variable {T : Tb} {W : WX} {α β γ δ : Type} {Ra : Tell α β} {Rb : Tell γ δ} {σ : L2.St} {ρ : Rho} {B H : Hp} {FB F : Reg} {OB O : Ows}
/-- one piece, then the rest -/
theorem stp {f : Rho → Option (Oe α)} {g : α → Rho → Option (Oe γ)} {Q : δ → Hp → Prop} {Q' : β → Hp → Prop} (x : Ext false B FB OB H F O) (E : EnvR T H F O σ ρ) (P : Post T W Rb σ B FB OB Q (bindO (f ρ) g))
    (k : ∀ v H1 a ρ1 F1 O1, Ext false H F O H1 F1 O1 → Ext false B FB OB H1 F1 O1 → EnvR T H1 F1 O1 σ ρ1 → Ra σ H H1 F1 O1 v a → Post T W Rb σ B FB OB Q (g a ρ1) → Q' v H1) : Tof T W Ra f σ H Q' := by
  refine ⟨ρ, F, O, E, ?_⟩
  cases q : f ρ with
  | none => rw [q] at P; exact P
  | some o =>
    rw [q] at P
    cases o with
    | ok a ρ1 => exact fun v H1 F1 O1 x1 E1 r1 => k v H1 a ρ1 F1 O1 x1 (x.trans x1) E1 r1 P
    | er c fs ρ1 => exact fun cls d H1 F1 O1 x1 E1 r1 => P cls d H1 F1 O1 (x.trans x1) E1 r1
end
def SE (X : Cx) (T : Tb) (W : WX) (e : Expr) (f : EM) : Prop := PE X e (Tof T W (tlE T) f)
def ST (X : Cx) (T : Tb) (W : WX) (e : Expr) (f : Rho → Option (Oe Bool)) : Prop := PT X e (Tof T W tlB f)
def SA (X : Cx) (T : Tb) (W : WX) (es : List Expr) (f : AM) : Prop := PA X es (Tof T W (tlA T) f)
theorem pe_imp {X : Cx} {e : Expr} {t t' : TE} (h : PE X e t) (i : ∀ σ H Q, t' σ H Q → t σ H Q) : PE X e t' := ⟨fun pins s σ H Q I q => h.run pins s σ H Q I (i σ H Q q)⟩
theorem pt_imp {X : Cx} {e : Expr} {t t' : TT} (h : PT X e t) (i : ∀ σ H Q, t' σ H Q → t σ H Q) : PT X e t' := ⟨fun pins s σ H Q I q => h.run pins s σ H Q I (i σ H Q q)⟩
theorem pa_imp {X : Cx} {e : List Expr} {t t' : TA} (h : PA X e t) (i : ∀ σ H Q, t' σ H Q → t σ H Q) : PA X e t' := ⟨fun pos pins s σ H Q I q => h.run pos pins s σ H Q I (i σ H Q q)⟩
/-- the facts of the place where a piece runs -/
structure Cxt (X : Cx) (T : Tb) (W : WX) (n : Nat) : Prop where
  hK : X.K = T.K
  hw : X.w = T.w
  calm : X.calm = true
  room : Room n X.A
  gd : X.A.guards = some []
  tk : Takes X W
  po : PassesOwn (model X.prog X.w) X.A X.env X.xe
  nd : X.N.Nodup
  sm : X.base.get? sysModules ≠ none
theorem Cxt.mono {X : Cx} {T : Tb} {W : WX} {m n : Nat} (c : Cxt X T W n) (h : m ≤ n) : Cxt X T W m := ⟨c.hK, c.hw, c.calm, c.room.mono h, c.gd, c.tk, c.po, c.nd, c.sm⟩
structure Gr (H : Hp) (F : Reg) (H' : Hp) (F' : Reg) : Prop where
  keep : ∀ b o, H b = some o → H' b = some o
  grow : ∀ b, F b → F' b
  new : ∀ b, F' b → F b ∨ (H b = none ∧ H' b ≠ none)
theorem Gr.refl {H : Hp} {F : Reg} : Gr H F H F := ⟨fun _ _ h => h, fun _ h => h, fun _ h => .inl h⟩
theorem Gr.laid {H : Hp} {F : Reg} {p : Addr} {o : HO} (hp : H p = none) : Gr H F (upd H p o) F := ⟨kept_new hp, fun _ h => h, fun _ h => .inl h⟩
theorem Gr.live {H H' : Hp} {F F' : Reg} (g : Gr H F H' F') : ∀ b, H' b = none → H b = none := fun b h => by
  cases q : H b with
  | none => rfl
  | some o => rw [g.keep b o q] at h; cases h
theorem Gr.trans {H H1 H2 : Hp} {F F1 F2 : Reg} (a : Gr H F H1 F1) (b : Gr H1 F1 H2 F2) : Gr H F H2 F2 :=
  ⟨fun c o h => b.keep c o (a.keep c o h), fun c h => b.grow c (a.grow c h), fun c h => (b.new c h).elim (fun z => (a.new c z).elim .inl fun y => .inr ⟨y.1, fun q => y.2 (b.live c q)⟩) fun z => .inr ⟨a.live c z.1, z.2⟩⟩
theorem Gr.ext {s : Bool} {H H' : Hp} {F F' : Reg} {O : Ows} (g : Gr H F H' F') : Ext s H F O H' F' O :=
  ⟨fun b o h _ _ => g.keep b o h, g.live, g.grow, fun b h => (g.new b h).elim .inl fun z => .inr (.inr z.1), fun _ _ h => .inl h⟩
theorem EnvR.gr {T : Tb} {H H' : Hp} {F F' : Reg} {O : Ows} {σ : L2.St} {ρ : Rho} (E : EnvR T H F O σ ρ) (g : Gr H F H' F') : EnvR T H' F' O σ ρ :=
  E.grown g.keep g.grow (fun i a e q => (g.new a q).elim (E.nf i a e) fun z => E.ne_new z.1 i e) fun b h => (g.new b h).elim (fun z q => E.lv b z (g.live b q)) fun z => z.2
/-- a result that an operation made -/
def ResN (T : Tb) (H H' : Hp) (F' : Reg) (v : V) : R → Prop
  | .dat d => DF T.K H' F' v d
  | .own d => ∃ a, v = .ref a ∧ H a = none ∧ ¬ F' a ∧ OwnAt T.K H' F' a d
  | .st xs => ∃ a, v = .ref a ∧ H a = none ∧ ¬ F' a ∧ SetAt T.w H' a xs
  | _ => False
theorem ResN.r {T : Tb} {H H' : Hp} {F F' : Reg} {O : Ows} {σ : L2.St} {ρ : Rho} {v : V} (E : EnvR T H F O σ ρ) : ∀ {r : R}, ResN T H H' F' v r → ResR T H H' F' O σ v r
  | .dat _, h => h
  | .own _, ⟨a, h1, h2, h3, h4⟩ => ⟨a, h1, h2, h3, E.ne_new h2, h4⟩
  | .st _, ⟨a, h1, h2, h3, h4⟩ => ⟨a, h1, h2, h3, E.ne_new h2, h4⟩
/-- the end of an operation -/
theorem fin_op {T : Tb} {W : WX} {σ : L2.St} {ρ : Rho} {B H H' : Hp} {FB F F' : Reg} {OB O : Ows} {Q : VK} {v : V} {r : R} (x : Ext false B FB OB H F O) (E : EnvR T H F O σ ρ) (P : Post T W (tlE T) σ B FB OB Q (some (.ok r ρ))) (g : Gr H F H' F') (h : ResN T H H' F' v r) : Q v H' :=
  P v H' F' O (x.trans g.ext) (E.gr g) ((h.r E).back x.live)
/-- a new list of the asker's own; a new tuple -/
theorem resN_lst {T : Tb} {H : Hp} {F : Reg} {p : Addr} {vs : List V} {ds : List PyData} (hp : H p = none) (nf : ¬ F p) (s : DFs T.K H F vs ds) : ResN T H (upd H p (.lst vs)) F (.ref p) (.own (.list ds)) :=
  ⟨p, rfl, hp, nf, vs, upd_same, s.mono (fun b o h _ => kept_new hp b o h) fun _ h => h⟩
theorem resN_tup {T : Tb} {H : Hp} {F : Reg} {p : Addr} {vs : List V} {ds : List PyData} (hp : H p = none) (s : DFs T.K H F vs ds) : ResN T H (upd H p (.tup vs)) F (.ref p) (.dat (.tuple ds)) :=
  .tup (.inl (.inl upd_same)) (s.mono (fun b o h _ => kept_new hp b o h) fun _ h => h)
end DL
namespace DL
open PySem L2
def nmM (i : Nat) : EM := fun ρ => match ρ[i]? with
  | some (some (.dat d)) => some (.ok (.dat d) ρ)
  | some (some (.own _)) => some (.ok (.slt i) ρ)
  | some (some (.st _)) => some (.ok (.slt i) ρ)
  | some (some (.obj _)) => some (.ok (.slt i) ρ)
  | some (some (.fn k)) => some (.ok (.fn k) ρ)
  | some (some (.ex c fs)) => some (.ok (.ex c fs) ρ)
  | _ => none
def cM (d : PyData) : EM := fun ρ => some (.ok (.dat d) ρ)
/-- an operation on two things as data -/
def op2M (g : PyData → PyData → Option R) (fa fb : EM) : EM := fun ρ => bindO (fa ρ) fun r ρ1 => bindO (fb ρ1) fun s ρ2 =>
  match val ρ2 r, val ρ2 s with
  | some d, some e => (g d e).map fun z => .ok z ρ2
  | _, _ => none
def op1M (g : PyData → Option R) (fa : EM) : EM := fun ρ => bindO (fa ρ) fun r ρ1 =>
  match val ρ1 r with
  | some d => (g d).map fun z => .ok z ρ1
  | _ => none
/-- arguments of a call: a list that is nobody's becomes still -/
def tmp : R → R
  | .own d => .dat d
  | r => r
def nilA : AM := fun ρ => some (.ok [] ρ)
def consA (fe : EM) (fr : AM) : AM := fun ρ => bindO (fe ρ) fun r ρ1 => bindO (fr ρ1) fun rs ρ2 => some (.ok (tmp r :: rs) ρ2)
/-- parts of a display: all become still -/
def consD (fe : EM) (fr : AM) : AM := fun ρ => bindO (fe ρ) fun r ρ1 => match frz ρ1 r with
  | some (d, ρ2) => bindO (fr ρ2) fun rs ρ3 => some (.ok (.dat d :: rs) ρ3)
  | none => none
def vals (ρ : Rho) : List R → Option (List PyData)
  | [] => some []
  | r :: rs => match val ρ r, vals ρ rs with
    | some d, some ds => some (d :: ds)
    | _, _ => none
def opnM (g : List PyData → Option R) (fa : AM) : EM := fun ρ => bindO (fa ρ) fun rs ρ1 =>
  match vals ρ1 rs with
  | some ds => (g ds).map fun z => .ok z ρ1
  | none => none
/-- tests -/
def tsM (f : EM) : Rho → Option (Oe Bool) := fun ρ => bindO (f ρ) fun r ρ1 => match r with
  | .dat (.bool b) => some (.ok b ρ1)
  | _ => none
def andT (f g : Rho → Option (Oe Bool)) : Rho → Option (Oe Bool) := fun ρ => bindO (f ρ) fun b ρ1 => if b = true then g ρ1 else some (.ok false ρ1)
def orT (f g : Rho → Option (Oe Bool)) : Rho → Option (Oe Bool) := fun ρ => bindO (f ρ) fun b ρ1 => if b = true then some (.ok true ρ1) else g ρ1
def notT (f : Rho → Option (Oe Bool)) : Rho → Option (Oe Bool) := fun ρ => bindO (f ρ) fun b ρ1 => some (.ok (!b) ρ1)
/-- as values -/
def andM (f g : EM) : EM := fun ρ => bindO (f ρ) fun r ρ1 => match r with
  | .dat (.bool true) => g ρ1
  | .dat (.bool false) => some (.ok (.dat (.bool false)) ρ1)
  | _ => none
def orM (f g : EM) : EM := fun ρ => bindO (f ρ) fun r ρ1 => match r with
  | .dat (.bool true) => some (.ok (.dat (.bool true)) ρ1)
  | .dat (.bool false) => g ρ1
  | _ => none
def notM (f : EM) : EM := fun ρ => bindO (f ρ) fun r ρ1 => match r with
  | .dat (.bool b) => some (.ok (.dat (.bool (!b))) ρ1)
  | _ => none
def iteM (c : Rho → Option (Oe Bool)) (f g : EM) : EM := fun ρ => bindO (c ρ) fun b ρ1 => if b = true then f ρ1 else g ρ1
/-- all still -/
def dats : List R → Option (List PyData)
  | [] => some []
  | .dat d :: rs => (dats rs).map (d :: ·)
  | _ => none
def tupM (fa : AM) : EM := fun ρ => bindO (fa ρ) fun rs ρ1 => match dats rs with
  | some ds => if ds.length ≤ 100000 then some (.ok (.dat (.tuple ds)) ρ1) else none
  | none => none
def lstM (fa : AM) : EM := fun ρ => bindO (fa ρ) fun rs ρ1 => match dats rs with
  | some ds => if ds.length ≤ 100000 then some (.ok (.own (.list ds)) ρ1) else none
  | none => none
/-- two comparisons in a row -/
def chM (g g' : PyData → PyData → Option R) (fa fb fc : EM) : EM := fun ρ => bindO (fa ρ) fun r ρ1 => bindO (fb ρ1) fun s ρ2 =>
  match val ρ2 r, val ρ2 s with
  | some d, some e => match g d e with
    | some (.dat (.bool true)) => bindO (fc ρ2) fun t ρ3 => match val ρ3 s, val ρ3 t with
      | some e', some z => (g' e' z).map fun y => .ok y ρ3
      | _, _ => none
    | some (.dat (.bool false)) => some (.ok (.dat (.bool false)) ρ2)
    | _ => none
  | _, _ => none
section
variable {X : Cx} {T : Tb} {W : WX} {a b c : Expr} {fa fb fc : EM} {pos : Pos}
theorem se_nm (i : Nat) {x : Str} (hN : X.N[i]? = some x) (hv : Vis X.env.scope x) (hd : (x == ("__debug__" : Str)) = false := by decide) (hcd : (x == ("__classdict__" : Str)) = false := by decide) : SE X T W (.Name x pos) (nmM i) := by
  refine pe_imp (pe_var hN hv hd hcd) fun σ H Q ⟨ρ, F, O, E, P⟩ => ?_
  unfold nmM at P
  cases q : ρ[i]? with
  | none => rw [q] at P; exact P.elim
  | some o =>
    cases o with
    | none => rw [q] at P; exact P.elim
    | some r =>
      rw [q] at P
      obtain ⟨v, hv, s⟩ := E.at_ i r q
      refine ⟨v, hv, ?_⟩
      cases r with
      | dat d => exact P v H F O .refl E s.2
      | own d => exact P v H F O .refl E hv
      | slt j => exact P.elim
      | fn k => exact P v H F O .refl E s.2
      | st xs => exact P v H F O .refl E hv
      | ex c fs => exact P v H F O .refl E s.2
      | two d e => exact P.elim
      | obj o => exact P v H F O .refl E hv
      | prt i k => exact P.elim
theorem se_const {e : Expr} {v : V} {d : PyData} (h : PE X e (tC v)) (hd : ∀ H F, DF T.K H F v d) : SE X T W e (cM d) :=
  pe_imp h fun σ H Q ⟨ρ, F, O, E, P⟩ => P v H F O .refl E (hd H F)
theorem se_int {i j pos} : SE X T W (.Constant (.int i) j pos) (cM (.int i)) := se_const pe_int fun _ _ => .int i
theorem se_bl {i j pos} : SE X T W (.Constant (.bool i) j pos) (cM (.bool i)) := se_const pe_bl fun _ _ => .bl i
theorem se_non {j pos} : SE X T W (.Constant .none j pos) (cM .none) := se_const pe_non fun _ _ => .non
theorem se_str {i j pos} : SE X T W (.Constant (.str i) j pos) (cM (.str i)) := se_const pe_str fun _ _ => .str i
theorem se_glob {x : Str} {v : V} {u : Value} {d : PyData} (hg : L2.Gl X x) (hm : X.mg x = some u) (r : RelV v u) (hd : ∀ H F, DF T.K H F v d) (hdb : (x == ("__debug__" : Str)) = false := by decide) : SE X T W (.Name x pos) (cM d) :=
  se_const (pe_glob hg hm r hdb) hd
/-- what an operation's rule r does with data -/
def Does2 (T : Tb) (r : R2) (g : PyData → PyData → Option R) : Prop :=
  ∀ (x y : V) (d e : PyData) (z : R) (H : Hp) (F : Reg) (Q : VK), (∀ p, F p → H p ≠ none) → Vw T H F x d → Vw T H F y e → g d e = some z → (∀ v H' F', Gr H F H' F' → ResN T H H' F' v z → Q v H') → r x y H Q
theorem op2 {r : R2} {g : PyData → PyData → Option R} (dr : Does2 T r g) {σ : L2.St} {H : Hp} {Q : VK} (h : Tof T W (tlE T) (op2M g fa fb) σ H Q) : tOp r (Tof T W (tlE T) fa) (Tof T W (tlE T) fb) σ H Q := by
  obtain ⟨ρ, F, O, E, P⟩ := h
  refine stp .refl E P fun v H1 ra ρ1 F1 O1 x1 _ E1 r1 P1 => ?_
  refine stp x1 E1 P1 fun u H2 rb ρ2 F2 O2 x2 y2 E2 r2 P2 => ?_
  have r1' : ResR T H H2 F2 O2 σ v ra := ResR.mono E1 x2 r1
  cases q1 : val ρ2 ra with
  | none => rw [q1] at P2; exact P2.elim
  | some d =>
    cases q2 : val ρ2 rb with
    | none => rw [q1, q2] at P2; exact P2.elim
    | some e =>
      rw [q1, q2] at P2
      dsimp only at P2
      cases q3 : g d e with
      | none => rw [q3] at P2; exact P2.elim
      | some z =>
        rw [q3] at P2
        exact dr v u d e z H2 F2 Q E2.lv (val_vw E2 r1' q1) (val_vw E2 r2 q2) q3 fun w H3 F3 g3 n3 => fin_op y2 E2 P2 g3 n3
theorem se_op {op : Operator} {r : R2} {g : PyData → PyData → Option R} (ho : OpR X (binaryOp op) r) (dr : Does2 T r g) (ha : SE X T W a fa) (hb : SE X T W b fb) : SE X T W (.BinOp a op b pos) (op2M g fa fb) :=
  pe_imp (pe_op ho ha hb) fun _ _ _ h => op2 dr h
theorem se_cmp {op : CmpOp} {r : R2} {g : PyData → PyData → Option R} (ho : OpR X (compareOp op) r) (dr : Does2 T r g) (ha : SE X T W a fa) (hb : SE X T W b fb) (hm : behindInMarks op b = false) : SE X T W (.Compare a [op] [b] pos) (op2M g fa fb) :=
  pe_imp (pe_cmpR ho ha hb hm) fun _ _ _ h => op2 dr h
theorem se_ix {r : R2} {g : PyData → PyData → Option R} (ho : IxR X r) (dr : Does2 T r g) (hs : PlainIx b) (ha : SE X T W a fa) (hb : SE X T W b fb) : SE X T W (.Subscript a b pos) (op2M g fa fb) :=
  pe_imp (pe_ix ho ha hb hs) fun _ _ _ h => op2 dr h
def Does1 (T : Tb) (r : V → Hp → VK → Prop) (g : PyData → Option R) : Prop :=
  ∀ (x : V) (d : PyData) (z : R) (H : Hp) (F : Reg) (Q : VK), (∀ p, F p → H p ≠ none) → Vw T H F x d → g d = some z → (∀ v H' F', Gr H F H' F' → ResN T H H' F' v z → Q v H') → r x H Q
theorem op1 {r : V → Hp → VK → Prop} {g : PyData → Option R} (dr : Does1 T r g) {σ : L2.St} {H : Hp} {Q : VK} (h : Tof T W (tlE T) (op1M g fa) σ H Q) : Tof T W (tlE T) fa σ H fun x H1 => r x H1 Q := by
  obtain ⟨ρ, F, O, E, P⟩ := h
  refine stp .refl E P fun v H1 ra ρ1 F1 O1 x1 y1 E1 r1 P1 => ?_
  cases q1 : val ρ1 ra with
  | none => rw [q1] at P1; exact P1.elim
  | some d =>
    rw [q1] at P1
    dsimp only at P1
    cases q3 : g d with
    | none => rw [q3] at P1; exact P1.elim
    | some z =>
      rw [q3] at P1
      exact dr v d z H1 F1 Q E1.lv (val_vw E1 r1 q1) q3 fun w H3 F3 g3 n3 => fin_op y1 E1 P1 g3 n3
theorem se_un {op : UnaryOp} {r : V → Hp → VK → Prop} {g : PyData → Option R} (ho : UnR X (unaryOp op) r) (dr : Does1 T r g) (ha : SE X T W a fa) : SE X T W (.UnaryOp op a pos) (op1M g fa) :=
  pe_imp (pe_un ho ha) fun _ _ _ h => op1 dr h
theorem sa_nil : SA X T W [] nilA := pa_imp pa_nil fun σ H Q ⟨ρ, F, O, E, P⟩ => P [] H F O .refl E .nil
theorem ResRs.mono {H0 H H' : Hp} {F F' : Reg} {O O' : Ows} {σ : L2.St} {ρ : Rho} (E : EnvR T H F O σ ρ) (x : Ext false H F O H' F' O') : ∀ {vs : List V} {rs : List R}, ResRs T H0 H F O σ vs rs → ResRs T H0 H' F' O' σ vs rs
  | _, _, .nil => .nil
  | _, _, .cons a b => .cons (ResR.mono E x a) (ResRs.mono E x b)
theorem ResRs.back {H0 H1 H : Hp} {F : Reg} {O : Ows} {σ : L2.St} (l : ∀ b, H1 b = none → H0 b = none) : ∀ {vs : List V} {rs : List R}, ResRs T H1 H F O σ vs rs → ResRs T H0 H F O σ vs rs
  | _, _, .nil => .nil
  | _, _, .cons a b => .cons (ResR.back l a) (ResRs.back l b)
/-- a temporary becomes still -/
theorem tmp_ok {B H0 H : Hp} {FB F : Reg} {OB O : Ows} {σ : L2.St} {ρ : Rho} {v : V} (x : Ext false B FB OB H F O) (l : ∀ b, H0 b = none → B b = none) (E : EnvR T H F O σ ρ) {r : R} (h : ResR T H0 H F O σ v r) :
    ∃ F', Ext false B FB OB H F' O ∧ EnvR T H F' O σ ρ ∧ ResR T H0 H F' O σ v (tmp r) := by
  cases r with
  | own d =>
    obtain ⟨a, h1, h2, h3, h4, h5⟩ := h
    have nf : ∀ i b, b ∈ O i → ¬ (F b ∨ b = a) := fun i b q z => z.elim (E.nf i b q) fun y => h4 i (y ▸ q)
    obtain ⟨o, ho, _⟩ := h5.there
    have lv : ∀ b, (F b ∨ b = a) → H b ≠ none := fun b h => h.elim (E.lv b) fun z => by rw [z, ho]; simp
    refine ⟨fun b => F b ∨ b = a, ⟨x.keep, x.live, fun b h => .inl (x.grow b h), fun b h => ?_, x.own⟩, E.grown (fun _ _ h => h) (fun _ h => .inl h) nf lv, ?_⟩
    · rcases h with h | rfl
      · exact x.new b h
      · exact .inr (.inr (l b h2))
    · rw [h1]
      exact OwnAt.df (F := fun b => F b ∨ b = a) (.inr rfl) (h5.mono (fun _ _ h _ => h) (fun _ h => .inl h) fun _ h => h)
  | dat d => exact ⟨F, x, E, h⟩
  | slt i => exact ⟨F, x, E, h⟩
  | fn k => exact ⟨F, x, E, h⟩
  | st xs => exact ⟨F, x, E, h⟩
  | ex c fs => exact ⟨F, x, E, h⟩
  | two d e => exact ⟨F, x, E, h⟩
  | obj o => exact ⟨F, x, E, h⟩
  | prt i k => exact ⟨F, x, E, h⟩
variable {e : Expr} {es : List Expr} {fe : EM} {fr : AM}
theorem sa_cons (he : SE X T W e fe) (hr : SA X T W es fr) (hs : starEach (e :: es) X.env = (false, eval e X.env) :: starEach es X.env := by rfl) : SA X T W (e :: es) (consA fe fr) := by
  refine pa_imp (pa_cons he hr hs) fun σ H Q ⟨ρ, F, O, E, P⟩ => ?_
  refine stp .refl E P fun v H1 ra ρ1 F1 O1 _ y1 E1 r1 P1 => ?_
  obtain ⟨F1', y1', E1', r1'⟩ := tmp_ok y1 (fun _ h => h) E1 r1
  refine stp y1' E1' P1 fun vs H2 rs ρ2 F2 O2 x2 y2 E2 r2 P2 => ?_
  exact P2 _ _ _ _ y2 E2 (.cons (ResR.mono E1' x2 r1') (ResRs.back y1'.live r2))
theorem sd_cons (he : SE X T W e fe) (hr : SA X T W es fr) (hs : starEach (e :: es) X.env = (false, eval e X.env) :: starEach es X.env := by rfl) : SA X T W (e :: es) (consD fe fr) := by
  refine pa_imp (pa_cons he hr hs) fun σ H Q ⟨ρ, F, O, E, P⟩ => ?_
  refine stp .refl E P fun v H1 ra ρ1 F1 O1 _ y1 E1 r1 P1 => ?_
  cases q : frz ρ1 ra with
  | none => rw [q] at P1; exact P1.elim
  | some z =>
    obtain ⟨d, ρ1'⟩ := z
    rw [q] at P1
    obtain ⟨F1', O1', y1', E1', d1, _, _, _⟩ := fz y1 (fun _ h => h) E1 r1 q
    refine stp y1' E1' P1 fun vs H2 rs ρ2 F2 O2 x2 y2 E2 r2 P2 => ?_
    exact P2 _ _ _ _ y2 E2 (.cons (show ResR T H H2 F2 O2 σ v (.dat d) from DF.mono (E1'.kept x2) x2.grow d1) (ResRs.back y1'.live r2))
inductive Vws (T : Tb) (H : Hp) (F : Reg) : List V → List PyData → Prop where
  | nil : Vws T H F [] []
  | cons {v : V} {d : PyData} {vs : List V} {ds : List PyData} : Vw T H F v d → Vws T H F vs ds → Vws T H F (v :: vs) (d :: ds)
theorem vals_vws {H0 H : Hp} {F : Reg} {O : Ows} {σ : L2.St} {ρ : Rho} (E : EnvR T H F O σ ρ) : ∀ {vs : List V} {rs : List R} {ds : List PyData}, ResRs T H0 H F O σ vs rs → vals ρ rs = some ds → Vws T H F vs ds
  | _, _, _, .nil, h => by cases h; exact .nil
  | _, r :: rs, ds, .cons a b, h => by
    unfold vals at h
    cases q1 : val ρ r with
    | none => rw [q1] at h; cases h
    | some d =>
      cases q2 : vals ρ rs with
      | none => rw [q1, q2] at h; cases h
      | some es =>
        rw [q1, q2] at h
        cases h
        exact .cons (val_vw E a q1) (vals_vws E b q2)
def DoesN (T : Tb) (r : List V → Hp → VK → Prop) (g : List PyData → Option R) : Prop :=
  ∀ (xs : List V) (ds : List PyData) (z : R) (H : Hp) (F : Reg) (Q : VK), (∀ p, F p → H p ≠ none) → Vws T H F xs ds → g ds = some z → (∀ v H' F', Gr H F H' F' → ResN T H H' F' v z → Q v H') → r xs H Q
theorem opn {r : List V → Hp → VK → Prop} {g : List PyData → Option R} (dr : DoesN T r g) {f : AM} {σ : L2.St} {H : Hp} {Q : VK} (h : Tof T W (tlE T) (opnM g f) σ H Q) : Tof T W (tlA T) f σ H fun vs H1 => r vs H1 Q := by
  obtain ⟨ρ, F, O, E, P⟩ := h
  refine stp .refl E P fun vs H1 rs ρ1 F1 O1 x1 y1 E1 r1 P1 => ?_
  cases q1 : vals ρ1 rs with
  | none => rw [q1] at P1; exact P1.elim
  | some ds =>
    rw [q1] at P1
    dsimp only at P1
    cases q3 : g ds with
    | none => rw [q3] at P1; exact P1.elim
    | some z =>
      rw [q3] at P1
      exact dr vs ds z H1 F1 Q E1.lv (vals_vws E1 r1 q1) q3 fun w H3 F3 g3 n3 => fin_op y1 E1 P1 g3 n3
/-- a built-in by its name, a built-in class -/
theorem se_callB {x : Str} {id : String} {r : List V → Hp → VK → Prop} {g : List PyData → Option R} {f : AM} {p : Pos} (hc : CallR X (.builtin id) r) (dr : DoesN T r g) (hg : L2.Gl X x) (hm : X.mg x = none) (hv : bootBuiltins x = some (.builtin id)) (ha : SA X T W (e :: es) f)
    (hn : x ≠ "__name__" := by decide) (hdb : (x == ("__debug__" : Str)) = false := by decide) (he : starEach (e :: es) X.env = (false, eval e X.env) :: starEach es X.env := by rfl) (hpl : (backTo pos (starEach es X.env)).any (·.1) = false := by rfl) :
    SE X T W (.Call (.Name x p) (e :: es) [] pos) (opnM g f) := pe_imp (pe_callB hc hg hm hv ha hn hdb he hpl) fun _ _ _ h => opn dr h
theorem se_callTy {x : Str} {id : String} {r : List V → Hp → VK → Prop} {g : List PyData → Option R} {f : AM} {p : Pos} (hc : CallR X (.type id) r) (dr : DoesN T r g) (hg : L2.Gl X x) (hm : X.mg x = none) (hv : bootBuiltins x = some (.type id)) (ha : SA X T W (e :: es) f)
    (hn : x ≠ "__name__" := by decide) (hdb : (x == ("__debug__" : Str)) = false := by decide) (he : starEach (e :: es) X.env = (false, eval e X.env) :: starEach es X.env := by rfl) (hpl : (backTo pos (starEach es X.env)).any (·.1) = false := by rfl) :
    SE X T W (.Call (.Name x p) (e :: es) [] pos) (opnM g f) := pe_imp (pe_callTy hc hg hm hv ha hn hdb he hpl) fun _ _ _ h => opn dr h
theorem dats_dfs {H0 H : Hp} {F : Reg} {O : Ows} {σ : L2.St} : ∀ {vs : List V} {rs : List R} {ds : List PyData}, ResRs T H0 H F O σ vs rs → dats rs = some ds → DFs T.K H F vs ds
  | _, _, _, .nil, h => by cases h; exact .nil
  | _, .dat d :: rs, ds, .cons a b, h => by
    have h' : (dats rs).map (d :: ·) = some ds := h
    cases q : dats rs with
    | none => rw [q] at h'; cases h'
    | some es => rw [q] at h'; cases h'; exact .cons a (dats_dfs b q)
theorem sz5 {n : Nat} (h : n ≤ 100000) : n ≤ sizeLine := Nat.le_trans h (by decide)
theorem se_tup {f : AM} {k : Nat} (h : SA X T W es f) : SE X T W (.Tuple es k pos) (tupM f) := by
  refine pe_imp (pe_tup h) fun σ H Q ⟨ρ, F, O, E, P⟩ => ?_
  refine stp .refl E P fun vs H1 rs ρ1 F1 O1 x1 y1 E1 r1 P1 => ?_
  cases q1 : dats rs with
  | none => rw [q1] at P1; exact P1.elim
  | some ds =>
    rw [q1] at P1
    dsimp only at P1
    have s := dats_dfs r1 q1
    split at P1
    · rename_i hz
      refine ⟨by rw [s.length]; exact sz5 hz, fun p hp => ?_⟩
      exact fin_op y1 E1 P1 (.laid hp) (resN_tup hp s)
    · exact P1.elim
theorem se_lst {f : AM} (h : SA X T W es f) : SE X T W (.List es pos) (lstM f) := by
  refine pe_imp (pe_lst h) fun σ H Q ⟨ρ, F, O, E, P⟩ => ?_
  refine stp .refl E P fun vs H1 rs ρ1 F1 O1 x1 y1 E1 r1 P1 => ?_
  cases q1 : dats rs with
  | none => rw [q1] at P1; exact P1.elim
  | some ds =>
    rw [q1] at P1
    dsimp only at P1
    have s := dats_dfs r1 q1
    split at P1
    · rename_i hz
      refine ⟨by rw [s.length]; exact sz5 hz, fun p hp => ?_⟩
      exact fin_op y1 E1 P1 (.laid hp) (resN_lst hp (fun q => E1.lv p q hp) s)
    · exact P1.elim
theorem ts_of {f : EM} {σ : L2.St} {H : Hp} {Q : Bool → Hp → Prop} (h : Tof T W tlB (tsM f) σ H Q) : Tof T W (tlE T) f σ H fun x H1 => ∃ k, x = .bl k ∧ Q k H1 := by
  obtain ⟨ρ, F, O, E, P⟩ := h
  refine stp .refl E P fun v H1 ra ρ1 F1 O1 x1 y1 E1 r1 P1 => ?_
  cases ra with
  | dat d =>
    cases d with
    | bool b =>
      have e : v = .bl b := by cases (show DF T.K H1 F1 v (.bool b) from r1); rfl
      exact ⟨b, e, P1 b H1 F1 O1 y1 E1 rfl⟩
    | none => exact P1.elim
    | int i => exact P1.elim
    | str x => exact P1.elim
    | list xs => exact P1.elim
    | tuple xs => exact P1.elim
    | dict xs => exact P1.elim
  | own d => exact P1.elim
  | slt i => exact P1.elim
  | fn k => exact P1.elim
  | st xs => exact P1.elim
  | ex c fs => exact P1.elim
  | two d e => exact P1.elim
  | obj o => exact P1.elim
  | prt i k => exact P1.elim
variable {ta tb : Rho → Option (Oe Bool)}
theorem st_val {f : EM} (h : SE X T W e f) (he : ∀ whole, isTrue e X.env whole = (do let v ← whole; standAt e.pos; holding [v] (truthy v)) := by intro _; rfl) : ST X T W e (tsM f) :=
  pt_imp (pt_val h he) fun _ _ _ h => ts_of h
theorem st_cmp {op : CmpOp} {r : R2} {g : PyData → PyData → Option R} (ho : OpR X (compareOp op) r) (dr : Does2 T r g) (ha : SE X T W a fa) (hb : SE X T W b fb) (hm : behindInMarks op b = false) : ST X T W (.Compare a [op] [b] pos) (tsM (op2M g fa fb)) :=
  pt_imp (pt_cmpR ho ha hb hm) fun _ _ _ h => op2 dr (ts_of h)
def SW (X : Cx) (T : Tb) (W : WX) (e : Expr) (f : Rho → Option (Oe Bool)) : Prop := PW X e (Tof T W tlB f)
theorem pw_imp {X : Cx} {e : Expr} {t t' : TT} (h : PW X e t) (i : ∀ σ H Q, t' σ H Q → t σ H Q) : PW X e t' := ⟨fun whole pins s σ H Q I q => h.run whole pins s σ H Q I (i σ H Q q)⟩
theorem st_w {f : Rho → Option (Oe Bool)} (h : SW X T W e f) : ST X T W e f := PW.pt h
theorem sw_and1 (h : ST X T W a ta) : SW X T W (.BoolOp .And [a] pos) ta := pw_and1 h
theorem sw_or1 (h : ST X T W a ta) : SW X T W (.BoolOp .Or [a] pos) ta := pw_or1 h
theorem and_of {f g : Rho → Option (Oe Bool)} {σ : L2.St} {H : Hp} {Q : Bool → Hp → Prop} (h : Tof T W tlB (andT f g) σ H Q) : tAnd (Tof T W tlB f) (Tof T W tlB g) σ H Q := by
  obtain ⟨ρ, F, O, E, P⟩ := h
  refine stp .refl E P fun v H1 b ρ1 F1 O1 x1 y1 E1 r1 P1 => ?_
  have r1' : v = b := r1
  subst r1'
  cases v with
  | true =>
    rw [if_pos rfl] at P1 ⊢
    refine ⟨ρ1, F1, O1, E1, ?_⟩
    cases q : g ρ1 with
    | none => rw [q] at P1; exact P1
    | some o =>
      rw [q] at P1
      cases o with
      | ok c ρ2 => exact fun w H2 F2 O2 x2 E2 r2 => P1 w H2 F2 O2 (y1.trans x2) E2 r2
      | er c fs ρ2 => exact fun w d H2 F2 O2 x2 E2 r2 => P1 w d H2 F2 O2 (y1.trans x2) E2 r2
  | false =>
    rw [if_neg Bool.false_ne_true] at P1 ⊢
    exact P1 false H1 F1 O1 y1 E1 rfl
theorem or_of {f g : Rho → Option (Oe Bool)} {σ : L2.St} {H : Hp} {Q : Bool → Hp → Prop} (h : Tof T W tlB (orT f g) σ H Q) : tOr (Tof T W tlB f) (Tof T W tlB g) σ H Q := by
  obtain ⟨ρ, F, O, E, P⟩ := h
  refine stp .refl E P fun v H1 b ρ1 F1 O1 x1 y1 E1 r1 P1 => ?_
  have r1' : v = b := r1
  subst r1'
  cases v with
  | false =>
    rw [if_neg Bool.false_ne_true] at P1 ⊢
    refine ⟨ρ1, F1, O1, E1, ?_⟩
    cases q : g ρ1 with
    | none => rw [q] at P1; exact P1
    | some o =>
      rw [q] at P1
      cases o with
      | ok c ρ2 => exact fun w H2 F2 O2 x2 E2 r2 => P1 w H2 F2 O2 (y1.trans x2) E2 r2
      | er c fs ρ2 => exact fun w d H2 F2 O2 x2 E2 r2 => P1 w d H2 F2 O2 (y1.trans x2) E2 r2
  | true =>
    rw [if_pos rfl] at P1 ⊢
    exact P1 true H1 F1 O1 y1 E1 rfl
variable {rest : List Expr}
theorem sw_and (ha : ST X T W a ta) (hb : SW X T W (.BoolOp .And (b :: rest) pos) tb) : SW X T W (.BoolOp .And (a :: b :: rest) pos) (andT ta tb) := pw_imp (pw_and ha hb) fun _ _ _ h => and_of h
theorem sw_or (ha : ST X T W a ta) (hb : SW X T W (.BoolOp .Or (b :: rest) pos) tb) : SW X T W (.BoolOp .Or (a :: b :: rest) pos) (orT ta tb) := pw_imp (pw_or ha hb) fun _ _ _ h => or_of h
theorem st_not (ha : ST X T W a ta) : ST X T W (.UnaryOp .Not a pos) (notT ta) := by
  refine pt_imp (pt_not ha) fun σ H Q ⟨ρ, F, O, E, P⟩ => ?_
  refine stp .refl E P fun v H1 b ρ1 F1 O1 x1 y1 E1 r1 P1 => ?_
  have r1' : v = b := r1
  subst r1'
  exact P1 _ H1 F1 O1 y1 E1 rfl
/-- the rest of a piece from the state where it stands -/
theorem rst {α β : Type} {Ra : Tell α β} {B H : Hp} {FB F : Reg} {OB O : Ows} {σ : L2.St} {ρ : Rho} {f : Rho → Option (Oe α)} {Q : β → Hp → Prop}
    (bk : ∀ H' F' O' v a, Ra σ H H' F' O' v a → Ra σ B H' F' O' v a) (x : Ext false B FB OB H F O) (E : EnvR T H F O σ ρ) (P : Post T W Ra σ B FB OB Q (f ρ)) : Tof T W Ra f σ H Q := by
  refine ⟨ρ, F, O, E, ?_⟩
  cases q : f ρ with
  | none => rw [q] at P; exact P
  | some o =>
    rw [q] at P
    cases o with
    | ok c ρ2 => exact fun w H2 F2 O2 x2 E2 r2 => P w H2 F2 O2 (x.trans x2) E2 (bk _ _ _ _ _ r2)
    | er c fs ρ2 => exact fun w d H2 F2 O2 x2 E2 r2 => P w d H2 F2 O2 (x.trans x2) E2 r2
theorem rstE {B H : Hp} {FB F : Reg} {OB O : Ows} {σ : L2.St} {ρ : Rho} {f : EM} {Q : VK} (x : Ext false B FB OB H F O) (E : EnvR T H F O σ ρ) (P : Post T W (tlE T) σ B FB OB Q (f ρ)) : Tof T W (tlE T) f σ H Q :=
  rst (fun _ _ _ _ _ h => ResR.back x.live h) x E P
theorem bl_of {H : Hp} {F : Reg} {v : V} {b : Bool} (h : DF T.K H F v (.bool b)) : v = .bl b := by cases h; rfl
theorem se_one {op : BoolOp} (h : SE X T W a fa) : SE X T W (.BoolOp op [a] pos) fa := pe_one h
theorem se_and (ha : SE X T W a fa) (hb : SE X T W (.BoolOp .And (b :: rest) pos) fb) : SE X T W (.BoolOp .And (a :: b :: rest) pos) (andM fa fb) := by
  refine pe_imp (pe_and ha hb) fun σ H Q ⟨ρ, F, O, E, P⟩ => ?_
  refine stp .refl E P fun v H1 r ρ1 F1 O1 x1 y1 E1 r1 P1 => ?_
  split at P1
  · refine ⟨true, bl_of r1, ?_⟩
    rw [if_pos rfl]
    exact rstE y1 E1 P1
  · refine ⟨false, bl_of r1, ?_⟩
    rw [if_neg Bool.false_ne_true]
    exact P1 _ H1 F1 O1 y1 E1 (.bl _)
  · exact P1.elim
theorem se_not (ha : SE X T W a fa) : SE X T W (.UnaryOp .Not a pos) (notM fa) := by
  refine pe_imp (pe_not ha) fun σ H Q ⟨ρ, F, O, E, P⟩ => ?_
  refine stp .refl E P fun v H1 r ρ1 F1 O1 x1 y1 E1 r1 P1 => ?_
  split at P1
  · exact ⟨_, bl_of r1, P1 _ H1 F1 O1 y1 E1 (.bl _)⟩
  · exact P1.elim
theorem ch_of {r r' : R2} {g g' : PyData → PyData → Option R} (dr : Does2 T r g) (dr' : Does2 T r' g') {σ : L2.St} {H : Hp} {Q : VK} (h : Tof T W (tlE T) (chM g g' fa fb fc) σ H Q) :
    tChain r r' (Tof T W (tlE T) fa) (Tof T W (tlE T) fb) (Tof T W (tlE T) fc) σ H Q := by
  obtain ⟨ρ, F, O, E, P⟩ := h
  refine stp .refl E P fun v H1 ra ρ1 F1 O1 x1 _ E1 r1 P1 => ?_
  refine stp x1 E1 P1 fun u H2 rb ρ2 F2 O2 x2 y2 E2 r2 P2 => ?_
  have r1' : ResR T H H2 F2 O2 σ v ra := ResR.mono E1 x2 r1
  cases q1 : val ρ2 ra with
  | none => rw [q1] at P2; exact P2.elim
  | some d =>
    cases q2 : val ρ2 rb with
    | none => rw [q1, q2] at P2; exact P2.elim
    | some e =>
      rw [q1, q2] at P2
      dsimp only at P2
      split at P2
      · rename_i q3
        refine dr v u d e _ H2 F2 _ E2.lv (val_vw E2 r1' q1) (val_vw E2 r2 q2) q3 fun w H3 F3 g3 n3 => ⟨true, bl_of n3, ?_⟩
        rw [if_pos rfl]
        have y3 := y2.trans (g3.ext (s := false) (O := O2))
        have E3 := E2.gr g3
        have r3 : ResR T H1 H3 F3 O2 σ u rb := ResR.mono E2 (g3.ext (s := false)) r2
        refine stp y3 E3 P2 fun w4 H4 rc ρ4 F4 O4 x4 y4 E4 r4 P4 => ?_
        have r5 : ResR T H1 H4 F4 O4 σ u rb := ResR.mono E3 x4 r3
        cases q4 : val ρ4 rb with
        | none => rw [q4] at P4; exact P4.elim
        | some e' =>
          cases q5 : val ρ4 rc with
          | none => rw [q4, q5] at P4; exact P4.elim
          | some z =>
            rw [q4, q5] at P4
            dsimp only at P4
            cases q6 : g' e' z with
            | none => rw [q6] at P4; exact P4.elim
            | some y =>
              rw [q6] at P4
              exact dr' u w4 e' z y H4 F4 Q E4.lv (val_vw E4 r5 q4) (val_vw E4 r4 q5) q6 fun w H5 F5 g5 n5 => fin_op y4 E4 P4 g5 n5
      · rename_i q3
        refine dr v u d e _ H2 F2 _ E2.lv (val_vw E2 r1' q1) (val_vw E2 r2 q2) q3 fun w H3 F3 g3 n3 => ⟨false, bl_of n3, ?_⟩
        rw [if_neg Bool.false_ne_true]
        exact P2 _ H3 F3 O2 (y2.trans g3.ext) (E2.gr g3) (.bl _)
      · exact P2.elim
theorem se_ch {op op' : CmpOp} {r r' : R2} {g g' : PyData → PyData → Option R} (ho : OpR X (compareOp op) r) (ho' : OpR X (compareOp op') r') (dr : Does2 T r g) (dr' : Does2 T r' g') (ha : SE X T W a fa) (hb : SE X T W b fb) (hc : SE X T W c fc)
    (hm : lastMarks [op, op'] [b, c] = false := by with_unfolding_all rfl) : SE X T W (.Compare a [op, op'] [b, c] pos) (chM g g' fa fb fc) := pe_imp (pe_chain ho ho' ha hb hc hm) fun _ _ _ h => ch_of dr dr' h
theorem st_ch {op op' : CmpOp} {r r' : R2} {g g' : PyData → PyData → Option R} (ho : OpR X (compareOp op) r) (ho' : OpR X (compareOp op') r') (dr : Does2 T r g) (dr' : Does2 T r' g') (ha : SE X T W a fa) (hb : SE X T W b fb) (hc : SE X T W c fc)
    (hm : lastMarks [op, op'] [b, c] = false := by with_unfolding_all rfl) : ST X T W (.Compare a [op, op'] [b, c] pos) (tsM (chM g g' fa fb fc)) := pt_imp (pt_chain ho ho' ha hb hc hm) fun _ _ _ h => ch_of dr dr' (ts_of h)
theorem se_ite (hc : ST X T W c ta) (ha : SE X T W a fa) (hb : SE X T W b fb) : SE X T W (.IfExp c a b pos) (iteM ta fa fb) := by
  refine pe_imp (pe_ifExp hc ha hb) fun σ H Q ⟨ρ, F, O, E, P⟩ => ?_
  refine stp .refl E P fun v H1 b ρ1 F1 O1 x1 y1 E1 r1 P1 => ?_
  have r1' : v = b := r1
  subst r1'
  cases v with
  | true => rw [if_pos rfl] at P1 ⊢; exact rstE y1 E1 P1
  | false => rw [if_neg Bool.false_ne_true] at P1 ⊢; exact rstE y1 E1 P1
end
end DL
namespace DL
open PySem L2
section
variable {X : Cx} {pins : List (Addr × Obj)} {σ : L2.St} {H : Hp} {s : Shared} {a : Addr} {xs : List V}
theorem isL_of (I : L2.Inv X pins σ H s) (h : LsR X.K H a xs) : ∃ its n, Vals xs its ∧ IsL s.heap a its.toArray n ∧ xs.length ≤ sizeLine := by
  rcases h with (h | ⟨o, h⟩) | ⟨its, n, h1, h2, h3, _⟩
  · obtain ⟨z, its, n, r, e⟩ := I.hok a _ h
    exact ⟨its, n, r, e, z⟩
  · obtain ⟨_, z, its, n, r, e⟩ := I.hok a _ h
    exact ⟨its, n, r, e, z⟩
  · refine ⟨its.toList, n, h3, ?_, ?_⟩
    · have q := I.kIn a _ h1
      simpa using q
    · rw [h3.length]
      simpa using h2
end
/-- + -/
def rPlus (K : PySem.W.Frag) : R2 := fun x y H Q => (∃ i j, x = .int i ∧ y = .int j ∧ Q (.int (i + j)) H) ∨
  (∃ i j, x = .str i ∧ y = .str j ∧ i.length + j.length ≤ sizeLine ∧ Q (.str (i ++ j)) H) ∨
  (∃ l b xs zs, x = .ref l ∧ y = .ref b ∧ LsR K H l xs ∧ LsR K H b zs ∧ xs.length + zs.length ≤ sizeLine ∧ ∀ p, H p = none → Q (.ref p) (upd H p (.lst (xs ++ zs)))) ∨ rCatA K x y H Q
theorem op_plusL {X : Cx} : OpR X (binaryOp .Add) (fun x y H Q => ∃ l b xs zs, x = .ref l ∧ y = .ref b ∧ LsR X.K H l xs ∧ LsR X.K H b zs ∧ xs.length + zs.length ≤ sizeLine ∧ ∀ p, H p = none → Q (.ref p) (upd H p (.lst (xs ++ zs)))) := by
  intro pins s σ H x y v u Q I rx ry h
  obtain ⟨l, b, xs, zs, rfl, rfl, h1, h2, hz, q⟩ := h
  cases rx
  cases ry
  obtain ⟨i1, n1, r1, e1, _⟩ := isL_of I h1
  obtain ⟨i2, n2, r2, e2, _⟩ := isL_of I h2
  have l1 := r1.length
  have l2 := r2.length
  refine PySem.P.add_list e1 e2 ?_ (by simp only [List.size_toArray]; omega)
  rw [show i1.toArray ++ i2.toArray = (i1 ++ i2).toArray by simp]
  exact ⟨.ref _, _, I.lnew (t' := s.toks) (r1.append r2) (by rw [List.length_append]; exact hz), rfl, q _ I.fresh⟩
theorem op_plus {X : Cx} : OpR X (binaryOp .Add) (rPlus X.K) := op_add.or (op_add_str.or (op_plusL.or op_catA))
def CFd (_ j : Int) : Prop := j ≠ 0 ∧ j.natAbs.log2 < 9000
theorem op_fd {X : Cx} : OpR X (binaryOp .FloorDiv) (rI CFd fun i j => .int (i.fdiv j)) := opI fun _ _ _ _ _ _ _ hc q => PyProof.Rows.floordiv_int hc.1 q (.inl (PyProof.noPylong_of_log2 hc.2))
/-- lengths are kept within a bound that every heap bears -/
abbrev lim : Nat := 100000
def dPlus : PyData → PyData → Option R
  | .int i, .int j => some (.dat (.int (i + j)))
  | .str i, .str j => if i.length + j.length ≤ lim then some (.dat (.str (i ++ j))) else none
  | .list xs, .list ys => if xs.length + ys.length ≤ lim then some (.own (.list (xs ++ ys))) else none
  | .tuple xs, .tuple ys => if xs.length + ys.length ≤ lim then some (.dat (.tuple (xs ++ ys))) else none
  | _, _ => none
def dMinus : PyData → PyData → Option R
  | .int i, .int j => some (.dat (.int (i - j)))
  | _, _ => none
def dMul : PyData → PyData → Option R
  | .int i, .int j => if i.natAbs.log2 + j.natAbs.log2 < 1000000 then some (.dat (.int (i * j))) else none
  | .tuple xs, .int k => if xs ≠ [] ∧ 2 ≤ k ∧ k ≤ 1000 ∧ xs.length ≤ 1000 then some (.dat (.tuple (List.replicate k.toNat xs).flatten)) else none
  | _, _ => none
def dFd : PyData → PyData → Option R
  | .int i, .int j => if j ≠ 0 ∧ j.natAbs.log2 < 9000 then some (.dat (.int (i.fdiv j))) else none
  | _, _ => none
def dMod : PyData → PyData → Option R
  | .int i, .int j => if j ≠ 0 then some (.dat (.int (i.fmod j))) else none
  | _, _ => none
def dPow : PyData → PyData → Option R
  | .int i, .int j => if 0 ≤ j ∧ j ≤ 1000000 ∧ i.natAbs < 2 ^ 64 then some (.dat (.int (i ^ j.toNat))) else none
  | _, _ => none
def dNeg : PyData → Option R
  | .int i => some (.dat (.int (-i)))
  | _ => none
def dLt : PyData → PyData → Option R
  | .int i, .int j => some (.dat (.bool (decide (i < j))))
  | _, _ => none
def dLe : PyData → PyData → Option R
  | .int i, .int j => some (.dat (.bool (decide (i ≤ j))))
  | _, _ => none
def dGt : PyData → PyData → Option R
  | .int i, .int j => some (.dat (.bool (decide (j < i))))
  | _, _ => none
def dGe : PyData → PyData → Option R
  | .int i, .int j => some (.dat (.bool (decide (j ≤ i))))
  | _, _ => none
def dEq : PyData → PyData → Option R
  | .str i, .str j => some (.dat (.bool (decide (i = j))))
  | d, e => if SeqAt.shaped d = true ∧ SeqAt.shaped e = true then some (.dat (.bool (PyData.eqv d e))) else none
def dNe : PyData → PyData → Option R
  | .str i, .str j => some (.dat (.bool (!decide (i = j))))
  | d, e => if SeqAt.shaped d = true ∧ SeqAt.shaped e = true then some (.dat (.bool (!PyData.eqv d e))) else none
/-- x is None -/
def isNone : PyData → Bool
  | .none => true
  | _ => false
def dIsN (d e : PyData) : Option R := match e with
  | .none => some (.dat (.bool (isNone d)))
  | _ => none
def dNotN (d e : PyData) : Option R := match e with
  | .none => some (.dat (.bool (!isNone d)))
  | _ => none
def dIx : PyData → PyData → Option R
  | .list xs, .int i => (atI xs i).map R.dat
  | .tuple xs, .int i => (atI xs i).map R.dat
  | .str x, .int i => if x.length ≤ lim then (atI x.cps.toList i).map fun c => R.dat (.str ⟨#[c]⟩) else none
  | _, _ => none
section
variable {T : Tb} {H : Hp} {F : Reg}
theorem lm {n : Nat} (h : n ≤ lim) : n ≤ sizeLine := Nat.le_trans h (by decide)
theorem does_plus : Does2 T (rPlus T.K) dPlus := by
  intro x y d e z H F Q lv hx hy hg hq
  unfold dPlus at hg
  split at hg
  · cases hg
    exact .inl ⟨_, _, hx.int, hy.int, hq _ H F .refl (.int _)⟩
  · split at hg
    · rename_i hz
      cases hg
      exact .inr (.inl ⟨_, _, hx.str, hy.str, lm hz, hq _ H F .refl (.str _)⟩)
    · cases hg
  · split at hg
    · rename_i hz
      cases hg
      obtain ⟨a, vs, rfl, h1, s1⟩ := hx.lst
      obtain ⟨b, us, rfl, h2, s2⟩ := hy.lst
      refine .inr (.inr (.inl ⟨a, b, vs, us, rfl, rfl, h1, h2, by rw [s1.length, s2.length]; exact lm hz, fun p hp => hq _ _ F (.laid hp) (resN_lst hp (fun q => lv p q hp) (s1.append s2))⟩))
    · cases hg
  · split at hg
    · rename_i hz
      cases hg
      obtain ⟨a, vs, rfl, h1, s1⟩ := hx.tup
      obtain ⟨b, us, rfl, h2, s2⟩ := hy.tup
      refine .inr (.inr (.inr ⟨a, b, vs, us, rfl, rfl, h1, h2, by rw [s1.length, s2.length]; exact lm hz, fun e => ?_, fun _ e => ?_, fun _ _ p hp => hq _ _ F (.laid hp) (resN_tup hp (s1.append s2))⟩))
      · subst e
        cases s1
        exact hq _ H F .refl (.tup h2 s2)
      · subst e
        cases s2
        rw [List.append_nil] at hq
        exact hq _ H F .refl (.tup h1 s1)
    · cases hg
  · cases hg
theorem does_minus : Does2 T (rI0 fun i j => .int (i - j)) dMinus := by
  intro x y d e z H F Q lv hx hy hg hq
  unfold dMinus at hg
  split at hg
  · cases hg
    exact ⟨_, _, hx.int, hy.int, hq _ H F .refl (.int _)⟩
  · cases hg
def rMulX (K : PySem.W.Frag) : R2 := fun x y H Q => rI CMulW (fun i j => .int (i * j)) x y H Q ∨ rRepT K x y H Q
theorem op_mulX {X : Cx} : OpR X (binaryOp .Mult) (rMulX X.K) := op_mulW.or op_repT
theorem DFs.rep {vs : List V} {ds : List PyData} (h : DFs T.K H F vs ds) : ∀ n : Nat, DFs T.K H F (List.replicate n vs).flatten (List.replicate n ds).flatten
  | 0 => .nil
  | n + 1 => by
    rw [List.replicate_succ, List.replicate_succ, List.flatten_cons, List.flatten_cons]
    exact h.append (DFs.rep h n)
theorem does_mul : Does2 T (rMulX T.K) dMul := by
  intro x y d e z H F Q lv hx hy hg hq
  unfold dMul at hg
  split at hg
  · split at hg
    · rename_i hz
      cases hg
      exact .inl ⟨_, _, hx.int, hy.int, hz, hq _ H F .refl (.int _)⟩
    · cases hg
  · split at hg
    · rename_i hz
      cases hg
      obtain ⟨a, vs, rfl, h1, s1⟩ := hx.tup
      refine .inr ⟨a, _, vs, rfl, hy.int, h1, fun e => ?_, hz.2.1, hz.2.2.1, by rw [s1.length]; exact hz.2.2.2, fun p hp => hq _ _ F (.laid hp) (resN_tup hp (s1.rep _))⟩
      subst e
      cases s1
      exact hz.1 rfl
    · cases hg
  · cases hg
theorem does_fd : Does2 T (rI CFd fun i j => .int (i.fdiv j)) dFd := by
  intro x y d e z H F Q lv hx hy hg hq
  unfold dFd at hg
  split at hg
  · split at hg
    · rename_i hz
      cases hg
      exact ⟨_, _, hx.int, hy.int, hz, hq _ H F .refl (.int _)⟩
    · cases hg
  · cases hg
theorem does_mod : Does2 T (rI (fun _ j => j ≠ 0) fun i j => .int (i.fmod j)) dMod := by
  intro x y d e z H F Q lv hx hy hg hq
  unfold dMod at hg
  split at hg
  · split at hg
    · rename_i hz
      cases hg
      exact ⟨_, _, hx.int, hy.int, hz, hq _ H F .refl (.int _)⟩
    · cases hg
  · cases hg
theorem does_pow : Does2 T (rI CPow fun i j => .int (i ^ j.toNat)) dPow := by
  intro x y d e z H F Q lv hx hy hg hq
  unfold dPow at hg
  split at hg
  · split at hg
    · rename_i hz
      cases hg
      exact ⟨_, _, hx.int, hy.int, hz, hq _ H F .refl (.int _)⟩
    · cases hg
  · cases hg
theorem does_neg : Does1 T (rU fun i => .int (-i)) dNeg := by
  intro x d z H F Q lv hx hg hq
  unfold dNeg at hg
  split at hg
  · cases hg
    exact ⟨_, hx.int, hq _ H F .refl (.int _)⟩
  · cases hg
theorem does_lt : Does2 T (rI0 fun i j => .bl (decide (i < j))) dLt := by
  intro x y d e z H F Q lv hx hy hg hq
  unfold dLt at hg
  split at hg
  · cases hg
    exact ⟨_, _, hx.int, hy.int, hq _ H F .refl (.bl _)⟩
  · cases hg
theorem does_le : Does2 T (rI0 fun i j => .bl (decide (i ≤ j))) dLe := by
  intro x y d e z H F Q lv hx hy hg hq
  unfold dLe at hg
  split at hg
  · cases hg
    exact ⟨_, _, hx.int, hy.int, hq _ H F .refl (.bl _)⟩
  · cases hg
theorem does_gt : Does2 T (rI0 fun i j => .bl (decide (j < i))) dGt := by
  intro x y d e z H F Q lv hx hy hg hq
  unfold dGt at hg
  split at hg
  · cases hg
    exact ⟨_, _, hx.int, hy.int, hq _ H F .refl (.bl _)⟩
  · cases hg
theorem does_ge : Does2 T (rI0 fun i j => .bl (decide (j ≤ i))) dGe := by
  intro x y d e z H F Q lv hx hy hg hq
  unfold dGe at hg
  split at hg
  · cases hg
    exact ⟨_, _, hx.int, hy.int, hq _ H F .refl (.bl _)⟩
  · cases hg
mutual
theorem DF.dp : ∀ {v : V} {d : PyData}, DF T.K H F v d → d.canLay0 = true → L2.Dp T.K H v d
  | _, _, .non, _ => .non
  | _, _, .bl b, _ => .bl b
  | _, _, .int i, _ => .int i
  | _, _, .str x, _ => .str x
  | _, _, .lst f r s, h => .lst (.inl r) (DFs.dp s (by simpa [PyData.canLay0] using h))
  | _, _, .lstK r s, h => .lst (LsR.sq (.inr r)) (DFs.dp s (by simpa [PyData.canLay0] using h))
  | _, _, .tup r s, h => .tup r (DFs.dp s (by simpa [PyData.canLay0] using h))
  | _, _, .dct f r s, h => by simp [PyData.canLay0] at h
  | _, _, .dcT f r e s, h => by simp [PyData.canLay0] at h
theorem DFs.dp : ∀ {vs : List V} {ds : List PyData}, DFs T.K H F vs ds → PyData.canLayAll0 ds = true → L2.DpAll T.K H vs ds
  | _, _, .nil, _ => .nil
  | _, _, .cons a b, h => by
    have h' := h
    simp only [PyData.canLayAll0, Bool.and_eq_true] at h'
    exact .cons (DF.dp a h'.1) (DFs.dp b h'.2)
end
theorem Vw.dp {v : V} {d : PyData} (h : Vw T H F v d) (hs : SeqAt.shaped d = true) : L2.Dp T.K H v d := by
  have hc : d.canLay0 = true := by
    unfold SeqAt.shaped at hs
    simp only [Bool.and_eq_true] at hs
    exact hs.1
  rcases h with h | ⟨a, rfl, h⟩
  · exact h.dp hc
  · cases d with
    | list ds =>
      obtain ⟨vs, e, s⟩ := h
      exact .lst (.inl (.inl e)) (s.dp (by simpa [PyData.canLay0] using hc))
    | dict ds => simp [PyData.canLay0] at hc
    | none => exact h.elim
    | bool b => exact h.elim
    | int i => exact h.elim
    | str x => exact h.elim
    | tuple xs => exact h.elim
theorem does_eq : Does2 T (fun x y H Q => rEq x y H Q ∨ rEqD T.K x y H Q) dEq := by
  intro x y d e z H F Q lv hx hy hg hq
  unfold dEq at hg
  split at hg
  · cases hg
    have ex := hx.str
    have ey := hy.str
    subst ex ey
    refine .inl ⟨rfl, ?_⟩
    have := hq _ H F .refl (.bl _)
    simpa using this
  · split at hg
    · rename_i hz
      cases hg
      exact .inr ⟨_, _, hx.dp hz.1, hy.dp hz.2, hz.1, hz.2, hq _ H F .refl (.bl _)⟩
    · cases hg
theorem does_ne : Does2 T (fun x y H Q => rNe x y H Q ∨ rNeD T.K x y H Q) dNe := by
  intro x y d e z H F Q lv hx hy hg hq
  unfold dNe at hg
  split at hg
  · cases hg
    have ex := hx.str
    have ey := hy.str
    subst ex ey
    refine .inl ⟨rfl, ?_⟩
    have := hq _ H F .refl (.bl _)
    simpa using this
  · split at hg
    · rename_i hz
      cases hg
      exact .inr ⟨_, _, hx.dp hz.1, hy.dp hz.2, hz.1, hz.2, hq _ H F .refl (.bl _)⟩
    · cases hg
theorem Vw.isNone {v : V} {d : PyData} (h : Vw T H F v d) : decide (v = .non) = DL.isNone d := by
  rcases h with h | ⟨a, rfl, h⟩
  · cases h <;> simp [DL.isNone]
  · cases d with
    | list ds => simp [DL.isNone]
    | dict ds => simp [DL.isNone]
    | none => exact h.elim
    | bool b => exact h.elim
    | int i => exact h.elim
    | str x => exact h.elim
    | tuple xs => exact h.elim
theorem does_isN : Does2 T (fun x y H Q => y = .non ∧ Q (.bl (decide (x = .non))) H) dIsN := by
  intro x y d e z H F Q lv hx hy hg hq
  unfold dIsN at hg
  split at hg
  · cases hg
    refine ⟨hy.non, ?_⟩
    rw [hx.isNone]
    exact hq _ H F .refl (.bl _)
  · cases hg
theorem does_notN : Does2 T (fun x y H Q => y = .non ∧ Q (.bl (!decide (x = .non))) H) dNotN := by
  intro x y d e z H F Q lv hx hy hg hq
  unfold dNotN at hg
  split at hg
  · cases hg
    refine ⟨hy.non, ?_⟩
    rw [hx.isNone]
    exact hq _ H F .refl (.bl _)
  · cases hg
theorem atI_dfs {vs : List V} {ds : List PyData} {i : Int} {d : PyData} (s : DFs T.K H F vs ds) (h : atI ds i = some d) : ∃ v, atI vs i = some v ∧ DF T.K H F v d := by
  unfold atI at h ⊢
  rw [s.length]
  cases q : ixN ds.length i with
  | none => rw [q] at h; cases h
  | some j =>
    rw [q] at h
    exact s.get (show ds[j]? = some d from h)
theorem does_ix : Does2 T (rIx T.K) dIx := by
  intro x y d e z H F Q lv hx hy hg hq
  unfold dIx at hg
  split at hg
  · obtain ⟨a, vs, rfl, h1, s1⟩ := hx.lst
    obtain ⟨d', e1, e2⟩ := Option.map_eq_some_iff.mp hg
    subst e2
    obtain ⟨v, e3, h3⟩ := atI_dfs s1 e1
    exact .inl ⟨a, vs, _, v, rfl, hy.int, h1.sq, e3, hq _ H F .refl h3⟩
  · obtain ⟨a, vs, rfl, h1, s1⟩ := hx.tup
    obtain ⟨d', e1, e2⟩ := Option.map_eq_some_iff.mp hg
    subst e2
    obtain ⟨v, e3, h3⟩ := atI_dfs s1 e1
    exact .inr (.inl ⟨a, vs, _, v, rfl, hy.int, h1, e3, hq _ H F .refl h3⟩)
  · split at hg
    · rename_i hz
      obtain ⟨c, e1, e2⟩ := Option.map_eq_some_iff.mp hg
      subst e2
      exact .inr (.inr ⟨_, _, c, hx.str, hy.int, lm hz, e1, hq _ H F .refl (.str _)⟩)
    · cases hg
  · cases hg
end
end DL
namespace DL
open PySem L2
inductive Ot where
  | nx (ρ : Rho)
  | rt (r : R) (ρ : Rho)
  | bk (ρ : Rho)
  | ct (ρ : Rho)
  | er (c : Nat) (fs : List PyData) (ρ : Rho)
abbrev SM := Rho → Option Ot
/-- the slots that a def never stores stay -/
def Keeps (pr : Nat → Bool) (σ σ' : L2.St) : Prop := σ'.length = σ.length ∧ ∀ i, pr i = true → σ'[i]? = σ[i]?
theorem Keeps.refl {pr : Nat → Bool} {σ : L2.St} : Keeps pr σ σ := ⟨rfl, fun _ _ => rfl⟩
theorem Keeps.trans {pr : Nat → Bool} {σ σ1 σ2 : L2.St} (a : Keeps pr σ σ1) (b : Keeps pr σ1 σ2) : Keeps pr σ σ2 := ⟨b.1.trans a.1, fun i h => (b.2 i h).trans (a.2 i h)⟩
theorem Keeps.set {pr : Nat → Bool} {σ : L2.St} {i : Nat} {x : Option V} (h : pr i = false) : Keeps pr σ (σ.set i x) := ⟨List.length_set, fun j hj => by
  by_cases e : j = i
  · subst e; rw [h] at hj; cases hj
  · rw [List.getElem?_set_ne (Ne.symm e)]⟩
/-- a def's frame: the heap at its entry, how many parameters, the slots that it never stores -/
structure Fm where
  HB : Hp
  n : Nat
  pr : Nat → Bool
/-- the state between two statements -/
structure StR (T : Tb) (φ : Fm) (H : Hp) (F : Reg) (O : Ows) (σ : L2.St) (ρ : Rho) : Prop where
  E : EnvR T H F O σ ρ
  lb : ∀ b, H b = none → φ.HB b = none
  lf : ∀ i a, φ.n ≤ i → a ∈ O i → φ.HB a = none
theorem StR.step {T : Tb} {φ : Fm} {H H1 : Hp} {F F1 : Reg} {O O1 : Ows} {σ : L2.St} {ρ ρ1 : Rho} (S : StR T φ H F O σ ρ) (x : Ext false H F O H1 F1 O1) (E1 : EnvR T H1 F1 O1 σ ρ1) : StR T φ H1 F1 O1 σ ρ1 :=
  ⟨E1, fun b h => S.lb b (x.live b h), fun i a hi h => (x.own i a h).elim (S.lf i a hi) fun z => nomatch z.1⟩
def PostS (T : Tb) (W : WX) (φ : Fm) (σ : L2.St) (H : Hp) (F : Reg) (O : Ows) (D : Ends) : Option Ot → Prop
  | some (.nx ρ) => ∀ σ' H' F' O', Ext true H F O H' F' O' → StR T φ H' F' O' σ' ρ → Keeps φ.pr σ σ' → D.nx σ' H'
  | some (.rt r ρ) => ∀ v σ' H' F' O', Ext true H F O H' F' O' → StR T φ H' F' O' σ' ρ → Keeps φ.pr σ σ' → ResR T φ.HB H' F' O' [] v r → D.rt v H'
  | some (.bk ρ) => ∀ σ' H' F' O', Ext true H F O H' F' O' → StR T φ H' F' O' σ' ρ → Keeps φ.pr σ σ' → D.bk σ' H'
  | some (.ct ρ) => ∀ σ' H' F' O', Ext true H F O H' F' O' → StR T φ H' F' O' σ' ρ → Keeps φ.pr σ σ' → D.ct σ' H'
  | some (.er c fs ρ) => ∀ cls d σ' H' F' O', Ext true H F O H' F' O' → StR T φ H' F' O' σ' ρ → Keeps φ.pr σ σ' → ExcR T H' cls d c fs → W cls d σ' H'
  | none => False
def TSof (T : Tb) (W : WX) (φ : Fm) (f : SM) : TS := fun D σ H => ∃ ρ F O, StR T φ H F O σ ρ ∧ PostS T W φ σ H F O D (f ρ)
def SS (X : Cx) (T : Tb) (W : WX) (φ : Fm) (st : Stmt) (f : SM) : Prop := PS X st (TSof T W φ f)
def SB (X : Cx) (T : Tb) (W : WX) (φ : Fm) (st : List Stmt) (f : SM) : Prop := PSs X st (TSof T W φ f)
theorem ps_imp {X : Cx} {e : Stmt} {t t' : TS} (h : PS X e t) (i : ∀ D σ H, t' D σ H → t D σ H) : PS X e t' := ⟨fun pins s σ H D I q => h.run pins s σ H D I (i D σ H q)⟩
theorem pss_imp {X : Cx} {e : List Stmt} {t t' : TS} (h : PSs X e t) (i : ∀ D σ H, t' D σ H → t D σ H) : PSs X e t' := ⟨fun pins s σ H D I q => h.run pins s σ H D I (i D σ H q)⟩
theorem ps_impL {X : Cx} {e : Stmt} {t t' : TS} (h : PS X e t) (i : ∀ D σ H, σ.length = X.N.length → t' D σ H → t D σ H) : PS X e t' := ⟨fun pins s σ H D I q => h.run pins s σ H D I (i D σ H I.len q)⟩
def seqM (f g : SM) : SM := fun ρ => match f ρ with
  | some (.nx ρ1) => g ρ1
  | o => o
def skipM : SM := fun ρ => some (.nx ρ)
/-- an expression's end as a statement's -/
def bindS {α : Type} (o : Option (Oe α)) (g : α → Rho → Option Ot) : Option Ot := match o with
  | some (.ok a ρ) => g a ρ
  | some (.er c fs ρ) => some (.er c fs ρ)
  | none => none
@[simp] theorem bindS_ok {α : Type} (a : α) (ρ : Rho) (g : α → Rho → Option Ot) : bindS (some (.ok a ρ)) g = g a ρ := rfl
@[simp] theorem bindS_er {α : Type} (c : Nat) (fs : List PyData) (ρ : Rho) (g : α → Rho → Option Ot) : bindS (some (.er c fs ρ)) g = some (.er c fs ρ) := rfl
@[simp] theorem bindS_none {α : Type} (g : α → Rho → Option Ot) : bindS none g = none := rfl
def dropM (f : EM) : SM := fun ρ => bindS (f ρ) fun _ ρ1 => some (.nx ρ1)
def ifM (c : Rho → Option (Oe Bool)) (f g : SM) : SM := fun ρ => bindS (c ρ) fun b ρ1 => if b = true then f ρ1 else g ρ1
/-- what is stored in a slot -/
def asR (ρ : Rho) (i : Nat) : R → Option Rho
  | .dat d => some (ρ.set i (some (.dat d)))
  | .own d => some (ρ.set i (some (.own d)))
  | .st xs => some (ρ.set i (some (.st xs)))
  | .fn k => some (ρ.set i (some (.fn k)))
  | .slt j => (frz ρ (.slt j)).map fun p => p.2.set i (some (.dat p.1))
  | .ex _ _ => none
  | .two _ _ => none
  | .obj o => some (ρ.set i (some (.obj o)))
  | .prt _ _ => none
def asgM (i : Nat) (f : EM) : SM := fun ρ => bindS (f ρ) fun r ρ1 => (asR ρ1 i r).map .nx
/-- n: how many parameters; what they hold is shared with the caller -/
def retR (n : Nat) (ρ : Rho) : R → Option (R × Rho)
  | .slt i => if i < n then (frz ρ (.slt i)).map fun p => (.dat p.1, p.2) else match ρ[i]? with
    | some (some (.own d)) => some (.own d, ρ.set i none)
    | some (some (.dat d)) => some (.dat d, ρ)
    | some (some (.obj o)) => some (.obj o, ρ.set i none)
    | _ => none
  | .ex _ _ => none
  | .prt _ _ => none
  | r => some (r, ρ)
def retM (n : Nat) (f : EM) : SM := fun ρ => bindS (f ρ) fun r ρ1 => (retR n ρ1 r).map fun p => .rt p.1 p.2
def retN : SM := fun ρ => some (.rt (.dat .none) ρ)
section
variable {X : Cx} {T : Tb} {W : WX} {φ : Fm} {α β : Type} {Ra : Tell α β} {σ : L2.St} {ρ : Rho} {B H : Hp} {FB F : Reg} {OB O : Ows} {D : Ends} {σB : L2.St}
/-- an expression within a statement -/
theorem sps {f : Rho → Option (Oe α)} {g : α → Rho → Option Ot} {Q' : β → Hp → Prop} (x : Ext true B FB OB H F O) (ks : Keeps φ.pr σB σ) (S : StR T φ H F O σ ρ) (P : PostS T W φ σB B FB OB D (bindS (f ρ) g))
    (k : ∀ v H1 a ρ1 F1 O1, Ext false H F O H1 F1 O1 → Ext true B FB OB H1 F1 O1 → StR T φ H1 F1 O1 σ ρ1 → Ra σ H H1 F1 O1 v a → PostS T W φ σB B FB OB D (g a ρ1) → Q' v H1) : Tof T W Ra f σ H Q' := by
  refine ⟨ρ, F, O, S.E, ?_⟩
  cases q : f ρ with
  | none => rw [q] at P; exact P
  | some o =>
    rw [q] at P
    cases o with
    | ok a ρ1 => exact fun v H1 F1 O1 x1 E1 r1 => k v H1 a ρ1 F1 O1 x1 (x.trans x1.up) (S.step x1 E1) r1 P
    | er c fs ρ1 => exact fun cls d H1 F1 O1 x1 E1 r1 => P cls d σ H1 F1 O1 (x.trans x1.up) (S.step x1 E1) ks r1
/-- the rest of a statement from where it stands -/
theorem rsts {f : SM} (x : Ext true B FB OB H F O) (ks : Keeps φ.pr σB σ) (S : StR T φ H F O σ ρ) (P : PostS T W φ σB B FB OB D (f ρ)) : TSof T W φ f D σ H := by
  refine ⟨ρ, F, O, S, ?_⟩
  cases q : f ρ with
  | none => rw [q] at P; exact P
  | some o =>
    rw [q] at P
    cases o with
    | nx ρ1 => exact fun σ' H1 F1 O1 x1 E1 k1 => P σ' H1 F1 O1 (x.trans x1) E1 (ks.trans k1)
    | rt r ρ1 => exact fun v σ' H1 F1 O1 x1 E1 k1 r1 => P v σ' H1 F1 O1 (x.trans x1) E1 (ks.trans k1) r1
    | bk ρ1 => exact fun σ' H1 F1 O1 x1 E1 k1 => P σ' H1 F1 O1 (x.trans x1) E1 (ks.trans k1)
    | ct ρ1 => exact fun σ' H1 F1 O1 x1 E1 k1 => P σ' H1 F1 O1 (x.trans x1) E1 (ks.trans k1)
    | er c fs ρ1 => exact fun cls d σ' H1 F1 O1 x1 E1 k1 r1 => P cls d σ' H1 F1 O1 (x.trans x1) E1 (ks.trans k1) r1
end
section
variable {X : Cx} {T : Tb} {W : WX} {φ : Fm} {st : Stmt} {rest : List Stmt} {f g : SM} {e c : Expr} {fe : EM} {tc : Rho → Option (Oe Bool)} {pos : Pos}
theorem ss_nil : SB X T W φ [] skipM := pss_imp pss_nil fun D σ H ⟨ρ, F, O, S, P⟩ => P σ H F O .refl S .refl
theorem seq_of {D : Ends} {σ : L2.St} {H : Hp} (h : TSof T W φ (seqM f g) D σ H) : tSeq (TSof T W φ f) (TSof T W φ g) D σ H := by
  obtain ⟨ρ, F, O, S, P⟩ := h
  refine ⟨ρ, F, O, S, ?_⟩
  unfold seqM at P
  cases q : f ρ with
  | none => rw [q] at P; exact P
  | some o =>
    rw [q] at P
    cases o with
    | nx ρ1 => exact fun σ' H1 F1 O1 x1 E1 k1 => rsts x1 k1 E1 P
    | rt r ρ1 => exact P
    | bk ρ1 => exact P
    | ct ρ1 => exact P
    | er c fs ρ1 => exact P
theorem ss_cons (h1 : SS X T W φ st f) (h2 : SB X T W φ rest g) : SB X T W φ (st :: rest) (seqM f g) := pss_imp (pss_cons h1 h2) fun _ _ _ h => seq_of h
theorem ss_one (h : SS X T W φ st f) : SB X T W φ [st] f := pss_one h
theorem ss_expr (he : SE X T W e fe) (hs : swapsWith e none pos.line X.env = pure false := by rfl) : SS X T W φ (.Expr e pos) (dropM fe) := by
  refine ps_imp (ps_expr he hs) fun D σ H ⟨ρ, F, O, S, P⟩ => ?_
  exact sps .refl .refl S P fun v H1 a ρ1 F1 O1 x1 y1 S1 r1 P1 => P1 σ H1 F1 O1 y1 S1 .refl
theorem ss_if {a b : List Stmt} (hc : ST X T W c tc) (ha : SB X T W φ a f) (hb : SB X T W φ b g) : SS X T W φ (.If c a b pos) (ifM tc f g) := by
  refine ps_imp (ps_if hc ha hb) fun D σ H ⟨ρ, F, O, S, P⟩ => ?_
  refine sps .refl .refl S P fun v H1 b ρ1 F1 O1 x1 y1 S1 r1 P1 => ?_
  have r1' : v = b := r1
  subst r1'
  cases v with
  | true => rw [if_pos rfl] at P1 ⊢; exact rsts y1 .refl S1 P1
  | false => rw [if_neg Bool.false_ne_true] at P1 ⊢; exact rsts y1 .refl S1 P1
/-- a slot forgets what it alone held -/
theorem EnvR.put {H : Hp} {F : Reg} {O : Ows} {σ : L2.St} {ρ : Rho} {i : Nat} {v : V} {r : R} {oa : List Addr} (E : EnvR T H F O σ ρ) (hi : i < σ.length) (s : SlotR T H F oa v r) (h1 : ∀ a, a ∈ oa → ¬ F a) (h2 : ∀ a, a ∈ oa → ∀ j, a ∉ O j) :
    EnvR T H F (fun j => if j = i then oa else O j) (σ.set i (some v)) (ρ.set i (some r)) := by
  have hl : i < ρ.length := by rw [E.len]; exact hi
  refine ⟨by rw [List.length_set, List.length_set]; exact E.len, fun j r' e => ?_, fun j b e => ?_, fun j k b e1 e2 => ?_, fun j b e q => ?_, E.lv, E.tb⟩
  · by_cases hj : j = i
    · subst hj
      rw [List.getElem?_set_self hl] at e
      cases e
      exact ⟨v, by rw [List.getElem?_set_self hi], by rw [if_pos rfl]; exact s⟩
    · rw [List.getElem?_set_ne (Ne.symm hj)] at e ⊢
      rw [if_neg hj]
      exact E.at_ j r' e
  · by_cases hj : j = i
    · subst hj
      exact ⟨r, by rw [List.getElem?_set_self hl]⟩
    · rw [if_neg hj] at e
      rw [List.getElem?_set_ne (Ne.symm hj)]
      exact E.own j b e
  · by_cases hj : j = i
    · rw [if_pos hj] at e1
      by_cases hk : k = i
      · rw [hj, hk]
      · rw [if_neg hk] at e2
        exact absurd e2 (h2 b e1 k)
    · rw [if_neg hj] at e1
      by_cases hk : k = i
      · rw [if_pos hk] at e2
        exact absurd e1 (h2 b e2 j)
      · rw [if_neg hk] at e2
        exact E.inj j k b e1 e2
  · by_cases hj : j = i
    · rw [if_pos hj] at e
      exact h1 b e q
    · rw [if_neg hj] at e
      exact E.nf j b e q
/-- a result is stored in a slot -/
theorem as_ok {B H0 H : Hp} {FB F : Reg} {OB O : Ows} {σ : L2.St} {ρ ρ' : Rho} {i : Nat} {v : V} (x : Ext true B FB OB H F O) (l : ∀ b, H0 b = none → B b = none) (E : EnvR T H F O σ ρ) (hi : i < σ.length) {r : R} (h : ResR T H0 H F O σ v r) (e : asR ρ i r = some ρ') :
    ∃ F' O', Ext true B FB OB H F' O' ∧ EnvR T H F' O' (σ.set i (some v)) ρ' ∧ ∀ j a, a ∈ O' j → a ∈ O j ∨ (j = i ∧ H0 a = none) := by
  have drop : ∀ {oa : List Addr}, (∀ a, a ∈ oa → B a = none) → Ext true B FB OB H F (fun j => if j = i then oa else O j) := fun ho => ⟨x.keep, x.live, x.grow, x.new, fun j b q => by
    by_cases hj : j = i
    · rw [if_pos hj] at q
      exact .inr ⟨rfl, .inr (ho b q)⟩
    · rw [if_neg hj] at q
      exact x.own j b q⟩
  have sub : ∀ {oa : List Addr}, (∀ a, a ∈ oa → H0 a = none) → ∀ j a, a ∈ (if j = i then oa else O j) → a ∈ O j ∨ (j = i ∧ H0 a = none) := fun ho j a q => by
    by_cases hj : j = i
    · rw [if_pos hj] at q
      exact .inr ⟨hj, ho a q⟩
    · rw [if_neg hj] at q
      exact .inl q
  cases r with
  | dat d =>
    cases e
    exact ⟨F, _, drop (oa := []) (fun _ q => absurd q List.not_mem_nil), E.put hi (oa := []) ⟨rfl, h⟩ (fun _ q => absurd q List.not_mem_nil) (fun _ q => absurd q List.not_mem_nil), sub fun _ q => absurd q List.not_mem_nil⟩
  | own d =>
    cases e
    obtain ⟨a, h1, h2, h3, h4, h5⟩ := h
    exact ⟨F, _, drop (oa := [a]) (fun _ q => by cases List.mem_singleton.mp q; exact l a h2), E.put hi (oa := [a]) ⟨a, rfl, h1, h5⟩ (fun _ q => by cases List.mem_singleton.mp q; exact h3) (fun _ q => by cases List.mem_singleton.mp q; exact h4), sub fun _ q => by cases List.mem_singleton.mp q; exact h2⟩
  | st xs =>
    cases e
    obtain ⟨a, h1, h2, h3, h4, h5⟩ := h
    exact ⟨F, _, drop (oa := [a]) (fun _ q => by cases List.mem_singleton.mp q; exact l a h2), E.put hi (oa := [a]) ⟨a, rfl, h1, h5⟩ (fun _ q => by cases List.mem_singleton.mp q; exact h3) (fun _ q => by cases List.mem_singleton.mp q; exact h4), sub fun _ q => by cases List.mem_singleton.mp q; exact h2⟩
  | fn k =>
    cases e
    exact ⟨F, _, drop (oa := []) (fun _ q => absurd q List.not_mem_nil), E.put hi (oa := []) ⟨rfl, h⟩ (fun _ q => absurd q List.not_mem_nil) (fun _ q => absurd q List.not_mem_nil), sub fun _ q => absurd q List.not_mem_nil⟩
  | ex c fs => cases e
  | two d d' => cases e
  | prt i k => cases e
  | obj o =>
    cases e
    obtain ⟨L, h1, h2⟩ := h
    exact ⟨F, _, drop (oa := L) (fun b q => l b (h1 b q).1), E.put hi (oa := L) h2 (fun b q => (h1 b q).2.1) (fun b q => (h1 b q).2.2), sub fun b q => (h1 b q).1⟩
  | slt j =>
    have e' : (frz ρ (.slt j)).map (fun p => p.2.set i (some (.dat p.1))) = some ρ' := e
    obtain ⟨⟨d, ρ1⟩, e1, e2⟩ := Option.map_eq_some_iff.mp e'
    subst e2
    obtain ⟨F1, O1, x1, E1, d1, _, sb, _⟩ := fz x l E h e1
    refine ⟨F1, fun j => if j = i then [] else O1 j, ⟨x1.keep, x1.live, x1.grow, x1.new, fun j b q => ?_⟩, E1.put hi (oa := []) ⟨rfl, d1⟩ (fun _ q => absurd q List.not_mem_nil) (fun _ q => absurd q List.not_mem_nil), fun j a q => ?_⟩
    · by_cases hj : j = i
      · rw [if_pos hj] at q; cases q
      · rw [if_neg hj] at q
        exact x1.own j b q
    · have q' : a ∈ (if j = i then [] else O1 j) := q
      by_cases hj : j = i
      · rw [if_pos hj] at q'; cases q'
      · rw [if_neg hj] at q'
        exact .inl (sb j a q')
variable {i : Nat} {x : Str}
theorem asg_of {D : Ends} {σ : L2.St} {H : Hp} (hp : φ.pr i = false) (hN : i < σ.length) (h : TSof T W φ (asgM i fe) D σ H) : tAsg (Tof T W (tlE T) fe) (gName i) D σ H := by
  obtain ⟨ρ, F, O, S, P⟩ := h
  refine sps .refl .refl S P fun v H1 r ρ1 F1 O1 x1 y1 S1 r1 P1 => ?_
  cases q : asR ρ1 i r with
  | none => rw [q] at P1; exact P1.elim
  | some ρ2 =>
    rw [q] at P1
    obtain ⟨F2, O2, y2, E2, sb⟩ := as_ok y1 (fun _ h => h) S1.E hN r1 q
    exact P1 _ H1 F2 O2 y2 ⟨E2, S1.lb, fun j a hj e => (sb j a e).elim (S1.lf j a hj) fun z => S.lb a z.2⟩ (.set hp)
theorem lt_of_at {α : Type} {l : List α} {i : Nat} {x : α} (h : l[i]? = some x) : i < l.length := (List.getElem?_eq_some_iff.mp h).1
theorem ss_asg {pos' : Pos} (hp : φ.pr i = false) (hN : X.N.Nodup) (hi : X.N[i]? = some x) (hx : Loc X.env.scope x) (he : SE X T W e fe) (hs : swapsWith e (some (.Name x pos')) pos.line X.env = pure false := by rfl)
    (hf : X.fn x = true ∨ X.env.scope.names.lookup x = some .local := by first | exact .inl rfl | exact .inr rfl | assumption) : SS X T W φ (.Assign [.Name x pos'] e pos) (asgM i fe) :=
  ps_impL (ps_set hN hi hx he hs hf) fun D σ H hl h => asg_of hp (by rw [hl]; exact lt_of_at hi) h
/-- what a return hands back -/
theorem ret_ok {B H0 H : Hp} {FB F : Reg} {OB O : Ows} {σ : L2.St} {ρ ρ' : Rho} {v : V} (x : Ext true B FB OB H F O) (l : ∀ b, H0 b = none → B b = none) (l2 : ∀ b, H0 b = none → φ.HB b = none) (S : StR T φ H F O σ ρ) {r r' : R} (h : ResR T H0 H F O σ v r) (e : retR φ.n ρ r = some (r', ρ')) :
    ∃ F' O', Ext true B FB OB H F' O' ∧ StR T φ H F' O' σ ρ' ∧ ResR T φ.HB H F' O' [] v r' := by
  have E := S.E
  cases r with
  | dat d => cases e; exact ⟨F, O, x, S, h⟩
  | own d =>
    cases e
    obtain ⟨a, h1, h2, h3⟩ := h
    exact ⟨F, O, x, S, a, h1, l2 a h2, h3⟩
  | st xs =>
    cases e
    obtain ⟨a, h1, h2, h3⟩ := h
    exact ⟨F, O, x, S, a, h1, l2 a h2, h3⟩
  | fn k => cases e; exact ⟨F, O, x, S, h⟩
  | ex c fs => cases e
  | prt i k => cases e
  | obj o =>
    cases e
    obtain ⟨L, h1, h2⟩ := h
    exact ⟨F, O, x, S, L, fun b hb => ⟨l2 b (h1 b hb).1, (h1 b hb).2⟩, h2⟩
  | two d d' =>
    cases e
    obtain ⟨p, a, b, h1, h2, h3, ⟨a1, a2⟩, b1, b2⟩ := h
    exact ⟨F, O, x, S, p, a, b, h1, h2, h3, ⟨l2 a a1, a2⟩, l2 b b1, b2⟩
  | slt i =>
    unfold retR at e
    dsimp only at e
    split at e
    · obtain ⟨⟨d, ρ1⟩, e1, e2⟩ := Option.map_eq_some_iff.mp e
      cases e2
      obtain ⟨F1, O1, x1, E1, d1, _, sb, _⟩ := fz x l E h e1
      exact ⟨F1, O1, x1, ⟨E1, S.lb, fun j a hj q => S.lf j a hj (sb j a q)⟩, d1⟩
    · rename_i hi
      have h' : σ[i]? = some (some v) := h
      split at e
      · rename_i d q
        cases e
        obtain ⟨u, hu, a, z1, z2, z3⟩ := E.at_ i _ q
        rw [h'] at hu
        cases hu
        have zm : a ∈ O i := by rw [z1]; exact List.mem_singleton.mpr rfl
        have hl : i < ρ.length := lt_of_at q
        have sb : ∀ j b, b ∈ (if j = i then [] else O j) → b ∈ O j ∧ j ≠ i := fun j b q => by
          by_cases hj : j = i
          · rw [if_pos hj] at q; cases q
          · rw [if_neg hj] at q; exact ⟨q, hj⟩
        refine ⟨F, fun j => if j = i then [] else O j, ⟨x.keep, x.live, x.grow, x.new, fun j b q => x.own j b (sb j b q).1⟩, ⟨⟨by rw [List.length_set]; exact E.len, fun j r e => ?_, fun j b e => ?_, fun j k b e1 e2 => E.inj j k b (sb j b e1).1 (sb k b e2).1, fun j b e => E.nf j b (sb j b e).1, E.lv, E.tb⟩, S.lb, fun j b hj q => S.lf j b hj (sb j b q).1⟩, a, z2, S.lf i a (Nat.le_of_not_lt hi) zm, E.nf i a zm, fun j q => (sb j a q).2 (E.inj j i a (sb j a q).1 zm), z3⟩
        · by_cases hj : j = i
          · subst hj; rw [List.getElem?_set_self hl] at e; cases e
          · rw [List.getElem?_set_ne (Ne.symm hj)] at e
            rw [if_neg hj]
            exact E.at_ j r e
        · rw [List.getElem?_set_ne (Ne.symm (sb j b e).2)]
          exact E.own j b (sb j b e).1
      · rename_i d q
        cases e
        obtain ⟨u, hu, z1, z2⟩ := E.at_ i _ q
        rw [h'] at hu
        cases hu
        exact ⟨F, O, x, S, z2⟩
      · rename_i o q
        cases e
        obtain ⟨u, hu, z⟩ := E.at_ i _ q
        rw [h'] at hu
        cases hu
        have hl : i < ρ.length := lt_of_at q
        have sb : ∀ j b, b ∈ (if j = i then [] else O j) → b ∈ O j ∧ j ≠ i := fun j b q => by
          by_cases hj : j = i
          · rw [if_pos hj] at q; cases q
          · rw [if_neg hj] at q; exact ⟨q, hj⟩
        refine ⟨F, fun j => if j = i then [] else O j, ⟨x.keep, x.live, x.grow, x.new, fun j b q => x.own j b (sb j b q).1⟩, ⟨⟨by rw [List.length_set]; exact E.len, fun j r e => ?_, fun j b e => ?_, fun j k b e1 e2 => E.inj j k b (sb j b e1).1 (sb k b e2).1, fun j b e => E.nf j b (sb j b e).1, E.lv, E.tb⟩, S.lb, fun j b hj q => S.lf j b hj (sb j b q).1⟩, O i, fun b hb => ⟨S.lf i b (Nat.le_of_not_lt hi) hb, E.nf i b hb, fun j q => (sb j b q).2 (E.inj j i b (sb j b q).1 hb)⟩, z⟩
        · by_cases hj : j = i
          · subst hj; rw [List.getElem?_set_self hl] at e; cases e
          · rw [List.getElem?_set_ne (Ne.symm hj)] at e
            rw [if_neg hj]
            exact E.at_ j r e
        · rw [List.getElem?_set_ne (Ne.symm (sb j b e).2)]
          exact E.own j b (sb j b e).1
      · cases e
theorem ss_ret (he : SE X T W e fe) : SS X T W φ (.Return (some e) pos) (retM φ.n fe) := by
  refine ps_imp (ps_ret he) fun D σ H ⟨ρ, F, O, S, P⟩ => ?_
  refine sps .refl .refl S P fun v H1 r ρ1 F1 O1 x1 y1 S1 r1 P1 => ?_
  cases q : retR φ.n ρ1 r with
  | none => rw [q] at P1; exact P1.elim
  | some p =>
    obtain ⟨r', ρ2⟩ := p
    rw [q] at P1
    obtain ⟨F2, O2, y2, S2, r2⟩ := ret_ok y1 (fun _ h => h) S.lb S1 r1 q
    exact P1 v σ H1 F2 O2 y2 S2 .refl r2
end
end DL
namespace DL
open PySem L2
abbrev GM := PyData → Rho → Option Rho
abbrev GsM := List PyData → Rho → Option Rho
def gnM (i : Nat) : GM := fun d ρ => some (ρ.set i (some (.dat d)))
def gs0 : GsM := fun ds ρ => match ds with
  | [] => some ρ
  | _ => none
def gsC (g : GM) (gs : GsM) : GsM := fun ds ρ => match ds with
  | d :: r => (g d ρ).bind (gs r)
  | [] => none
def gtM (gs : GsM) : GM := fun d ρ => match d with
  | .tuple ds => gs ds ρ
  | _ => none
def Sub (O' O : Ows) : Prop := ∀ i a, a ∈ O' i → a ∈ O i
def TGof (T : Tb) (pr : Nat → Bool) (g : GM) : TG := fun v σ H Q => ∃ d ρ F O, EnvR T H F O σ ρ ∧ DF T.K H F v d ∧ match g d ρ with
  | none => False
  | some ρ' => ∀ σ' O', EnvR T H F O' σ' ρ' → Keeps pr σ σ' → Sub O' O → Q σ' H
def TGsof (T : Tb) (pr : Nat → Bool) (g : GsM) : TGs := fun vs σ H Q => ∃ ds ρ F O, EnvR T H F O σ ρ ∧ DFs T.K H F vs ds ∧ match g ds ρ with
  | none => False
  | some ρ' => ∀ σ' O', EnvR T H F O' σ' ρ' → Keeps pr σ σ' → Sub O' O → Q σ' H
def SG (X : Cx) (T : Tb) (pr : Nat → Bool) (e : Expr) (g : GM) : Prop := PG X e (TGof T pr g)
def SGs (X : Cx) (T : Tb) (pr : Nat → Bool) (es : List Expr) (g : GsM) : Prop := PGs X es (TGsof T pr g)
theorem pg_imp {X : Cx} {e : Expr} {t t' : TG} (h : PG X e t) (i : ∀ v σ H Q, σ.length = X.N.length → t' v σ H Q → t v σ H Q) : PG X e t' := ⟨fun pins s σ H x v Q I r q => h.run pins s σ H x v Q I r (i x σ H Q I.len q)⟩
theorem pgs_imp {X : Cx} {e : List Expr} {t t' : TGs} (h : PGs X e t) (i : ∀ v σ H Q, t' v σ H Q → t v σ H Q) : PGs X e t' := ⟨fun pins s σ H x v Q I r q => h.run pins s σ H x v Q I r (i x σ H Q q)⟩
section
variable {X : Cx} {T : Tb} {pr : Nat → Bool} {i : Nat} {x : Str} {pos : Pos} {e : Expr} {es : List Expr} {g : GM} {gs : GsM}
theorem sg_nm (hp : pr i = false) (hN : X.N.Nodup) (hi : X.N[i]? = some x) (hx : Loc X.env.scope x) (hf : X.fn x = true ∨ X.env.scope.names.lookup x = some .local := by first | exact .inl rfl | exact .inr rfl | assumption) : SG X T pr (.Name x pos) (gnM i) := by
  refine pg_imp (pg_name hN hi hx hf) fun v σ H Q hl ⟨d, ρ, F, O, E, dv, P⟩ => ?_
  have hlt : i < σ.length := by rw [hl]; exact lt_of_at hi
  refine P _ _ (E.put hlt (oa := []) ⟨rfl, dv⟩ (fun _ q => absurd q List.not_mem_nil) fun _ q => absurd q List.not_mem_nil) (.set hp) fun j a q => ?_
  by_cases hj : j = i
  · rw [if_pos hj] at q; cases q
  · rw [if_neg hj] at q; exact q
theorem sgs_nil : SGs X T pr [] gs0 := by
  refine pgs_imp pgs_nil fun vs σ H Q ⟨ds, ρ, F, O, E, dv, P⟩ => ?_
  cases dv with
  | nil => exact ⟨rfl, P σ O E .refl fun _ _ h => h⟩
  | cons a b => exact P.elim
theorem sgs_cons (h1 : SG X T pr e g) (h2 : SGs X T pr es gs) (hs : (assignEach (e :: es) X.env).map (·.2) = assign e X.env :: (assignEach es X.env).map (·.2) := by rfl) : SGs X T pr (e :: es) (gsC g gs) := by
  refine pgs_imp (pgs_cons h1 h2 hs) fun vs σ H Q ⟨ds, ρ, F, O, E, dv, P⟩ => ?_
  cases dv with
  | nil => exact P.elim
  | @cons v d vs ds a b =>
    refine ⟨v, vs, rfl, d, ρ, F, O, E, a, ?_⟩
    have P' : match (g d ρ).bind (gs ds) with
      | none => False
      | some ρ' => ∀ σ' O', EnvR T H F O' σ' ρ' → Keeps pr σ σ' → Sub O' O → Q σ' H := P
    cases q : g d ρ with
    | none => rw [q] at P'; exact P'.elim
    | some ρ1 =>
      rw [q] at P'
      refine fun σ1 O1 E1 k1 s1 => ⟨ds, ρ1, F, O1, E1, b, ?_⟩
      have P2 : match gs ds ρ1 with
        | none => False
        | some ρ' => ∀ σ' O', EnvR T H F O' σ' ρ' → Keeps pr σ σ' → Sub O' O → Q σ' H := P'
      cases q2 : gs ds ρ1 with
      | none => rw [q2] at P2; exact P2.elim
      | some ρ2 =>
        rw [q2] at P2
        exact fun σ2 O2 E2 k2 s2 => P2 σ2 O2 E2 (k1.trans k2) fun j a h => s1 j a (s2 j a h)
theorem sg_tup {k : Nat} (hK : X.K = T.K) (hc : X.calm = true) (h : SGs X T pr es gs) {n : Nat} (hg : ∀ ds ρ ρ', gs ds ρ = some ρ' → ds.length = n) (hn : (assignEach es X.env).length = n := by rfl) (hst : (assignEach es X.env).findIdx? (·.1) = none := by rfl) : SG X T pr (.Tuple es k pos) (gtM gs) := by
  refine pg_imp (pg_tup hc h hn hst) fun v σ H Q _ ⟨d, ρ, F, O, E, dv, P⟩ => ?_
  rw [hK]
  cases dv with
  | @tup a xs ds r s =>
    have P' : match gs ds ρ with
      | none => False
      | some ρ' => ∀ σ' O', EnvR T H F O' σ' ρ' → Keeps pr σ σ' → Sub O' O → Q σ' H := P
    refine ⟨a, xs, rfl, r, ?_, ds, ρ, F, O, E, s, P'⟩
    cases q : gs ds ρ with
    | none => rw [q] at P'; exact P'.elim
    | some ρ' => rw [s.length]; exact hg ds ρ ρ' q
  | non => exact P.elim
  | bl b => exact P.elim
  | int i => exact P.elim
  | str y => exact P.elim
  | lst a b c => exact P.elim
  | lstK a b => exact P.elim
  | dct a b c => exact P.elim
  | dcT a b c d => exact P.elim
theorem gs0_len : ∀ ds ρ ρ', gs0 ds ρ = some ρ' → ds.length = 0 := fun ds ρ ρ' h => by
  cases ds with
  | nil => rfl
  | cons a b => cases h
theorem gsC_len {n : Nat} (h : ∀ ds ρ ρ', gs ds ρ = some ρ' → ds.length = n) : ∀ ds ρ ρ', gsC g gs ds ρ = some ρ' → ds.length = n + 1 := fun ds ρ ρ' q => by
  cases ds with
  | nil => cases q
  | cons a b =>
    have q' : (g a ρ).bind (gs b) = some ρ' := q
    cases z : g a ρ with
    | none => rw [z] at q'; cases q'
    | some ρ1 =>
      rw [z] at q'
      rw [List.length_cons, h b ρ1 ρ' q']
end
abbrev IM := Rho → Option (Oe (List PyData))
/-- the iterator yields just these -/
structure ItOk (T : Tb) (J : It) (F : Reg) (H : Hp) (ds : List PyData) : Prop where
  go : ∀ H', Kept F H H' → ∀ i d, ds[i]? = some d → J.go i H' ∧ ∀ x H'', J.yld i H' x H'' → (∀ b o, H' b = some o → H'' b = some o) ∧ DF T.K H'' F x d
  stop : ∀ H', Kept F H H' → ∀ i, ds.length ≤ i → i ≤ ds.length → J.stop i H'
def tlI (T : Tb) : Tell (List PyData) It := fun _ _ H F _ J ds => ItOk T J F H ds
def SI (X : Cx) (T : Tb) (W : WX) (tg iter : Expr) (f : IM) : Prop := PI X tg iter (Tof T W (tlI T) f)
theorem pi_imp {X : Cx} {tg e : Expr} {t t' : TI} (h : PI X tg e t) (i : ∀ σ H Q, t' σ H Q → t σ H Q) : PI X tg e t' := ⟨fun pins s σ H Q I q => h.run pins s σ H Q I (i σ H Q q)⟩
def forL (g : GM) (body : SM) : List PyData → SM
  | [], ρ => some (.nx ρ)
  | x :: xs, ρ => match g x ρ with
    | none => none
    | some ρ1 => match body ρ1 with
      | some (.nx ρ2) => forL g body xs ρ2
      | some (.ct ρ2) => forL g body xs ρ2
      | some (.bk ρ2) => some (.nx ρ2)
      | o => o
def forM (it : IM) (g : GM) (body : SM) : SM := fun ρ => bindS (it ρ) fun ds ρ1 => forL g body ds ρ1
theorem Kept.trans {F F1 : Reg} {H H1 H2 : Hp} (a : Kept F H H1) (g : ∀ b, F b → F1 b) (b : Kept F1 H1 H2) : Kept F H H2 := fun c o h q => b c o (a c o h q) (q.elim (fun z => .inl ⟨g c z.1, z.2⟩) .inr)
theorem kept_all {F : Reg} {H H' : Hp} (k : ∀ b o, H b = some o → H' b = some o) : Kept F H H' := fun b o h _ => k b o h
section
variable {X : Cx} {T : Tb} {W : WX} {φ : Fm} {tg iter : Expr} {body : List Stmt} {it : IM} {g : GM} {fb : SM} {pos : Pos}
theorem for_of {D : Ends} {σ : L2.St} {H : Hp} (h : TSof T W φ (forM it g fb) D σ H) : tFor (Tof T W (tlI T) it) (TGof T φ.pr g) (TSof T W φ fb) D σ H := by
  obtain ⟨ρ, F, O, S, P⟩ := h
  refine sps .refl .refl S P fun J H1 ds ρ1 F1 O1 x1 y1 S1 r1 P1 => ?_
  refine ⟨fun i m σ' H' => ∃ ρ' F' O', m = ds.length - i ∧ i ≤ ds.length ∧ Ext true H F O H' F' O' ∧ Keeps φ.pr σ σ' ∧ StR T φ H' F' O' σ' ρ' ∧ Kept F1 H1 H' ∧ (∀ b, F1 b → F' b) ∧ PostS T W φ σ H F O D (forL g fb (ds.drop i) ρ'),
    ⟨ds.length, ρ1, F1, O1, by simp, Nat.zero_le _, y1, .refl, S1, .refl, fun _ h => h, P1⟩, ?_⟩
  rintro i m σ' H' ⟨ρ', F', O', rfl, hi, x', k', S', kp, gF, P'⟩
  by_cases hlt : i < ds.length
  · have hd : ds[i]? = some ds[i] := by simp [hlt]
    rw [List.drop_eq_getElem_cons hlt] at P'
    obtain ⟨go, yl⟩ := r1.go H' kp i _ hd
    refine .inr ⟨go, fun σ2 H2 => ∃ ρ' F' O', i + 1 ≤ ds.length ∧ Ext true H F O H2 F' O' ∧ Keeps φ.pr σ σ2 ∧ StR T φ H2 F' O' σ2 ρ' ∧ Kept F1 H1 H2 ∧ (∀ b, F1 b → F' b) ∧ PostS T W φ σ H F O D (forL g fb (ds.drop (i + 1)) ρ'), fun σ2 H2 ⟨ρ2, F2, O2, a, b⟩ => ⟨ds.length - (i + 1), by omega, ρ2, F2, O2, rfl, a, b⟩, fun x H'' y => ?_⟩
    obtain ⟨kH, dx⟩ := yl x H'' y
    have gr : Gr H' F' H'' F' := ⟨kH, fun _ h => h, fun _ h => .inl h⟩
    refine ⟨ds[i], ρ', F', O', S'.E.gr gr, dx.mono .refl gF, ?_⟩
    have P2 : PostS T W φ σ H F O D (match g ds[i] ρ' with
      | none => none
      | some ρ1 => match fb ρ1 with
        | some (.nx ρ2) => forL g fb (ds.drop (i + 1)) ρ2
        | some (.ct ρ2) => forL g fb (ds.drop (i + 1)) ρ2
        | some (.bk ρ2) => some (.nx ρ2)
        | o => o) := P'
    cases q : g ds[i] ρ' with
    | none => rw [q] at P2; exact P2.elim
    | some ρ2 =>
      rw [q] at P2
      dsimp only at P2
      refine fun σ3 O3 E3 k3 s3 => ?_
      have x3 : Ext true H F O H'' F' O3 := ⟨fun b o h n z => (x'.trans gr.ext).keep b o h n z, (x'.trans (gr.ext (O := O'))).live, x'.grow, x'.new, fun j b e => x'.own j b (s3 j b e)⟩
      have S3 : StR T φ H'' F' O3 σ3 ρ2 := ⟨E3, fun b h => S'.lb b (gr.live b h), fun j a hj e => S'.lf j a hj (s3 j a e)⟩
      have kp3 : Kept F1 H1 H'' := kp.trans gF (kept_all kH)
      refine ⟨ρ2, F', O3, S3, ?_⟩
      cases q2 : fb ρ2 with
      | none => rw [q2] at P2; exact P2
      | some o =>
        rw [q2] at P2
        cases o with
        | nx ρ4 => exact fun σ4 H4 F4 O4 x4 S4 k4 => ⟨ρ4, F4, O4, hlt, x3.trans x4, (k'.trans k3).trans k4, S4, kp3.trans gF (S3.E.kept x4), fun b h => x4.grow b (gF b h), P2⟩
        | ct ρ4 => exact fun σ4 H4 F4 O4 x4 S4 k4 => ⟨ρ4, F4, O4, hlt, x3.trans x4, (k'.trans k3).trans k4, S4, kp3.trans gF (S3.E.kept x4), fun b h => x4.grow b (gF b h), P2⟩
        | bk ρ4 => exact fun σ4 H4 F4 O4 x4 S4 k4 => P2 σ4 H4 F4 O4 (x3.trans x4) S4 ((k'.trans k3).trans k4)
        | rt r ρ4 => exact fun v σ4 H4 F4 O4 x4 S4 k4 r4 => P2 v σ4 H4 F4 O4 (x3.trans x4) S4 ((k'.trans k3).trans k4) r4
        | er c fs ρ4 => exact fun cls d σ4 H4 F4 O4 x4 S4 k4 r4 => P2 cls d σ4 H4 F4 O4 (x3.trans x4) S4 ((k'.trans k3).trans k4) r4
  · have e : i = ds.length := by omega
    subst e
    rw [List.drop_length] at P'
    exact .inl ⟨r1.stop H' kp _ (Nat.le_refl _) (Nat.le_refl _), P' σ' H' F' O' x' S' k'⟩
theorem ss_for (hp : PassesOwn (model X.prog X.w) X.A X.env X.xe) (hc : X.calm = true) (hi : SI X T W tg iter it) (hg : SG X T φ.pr tg g) (hb : SB X T W φ body fb) (hs : ∀ x, foldedSetIterable iter X.env x = pure x := by intro _; rfl) : SS X T W φ (.For tg iter body [] pos) (forM it g fb) :=
  ps_imp (ps_for hp hc hi hg hb hs) fun _ _ _ h => for_of h
end
def wipeR (ρ : Rho) : List Nat → Rho
  | [] => ρ
  | v :: vs => (wipeR ρ vs).set v none
def bindN {α β : Type} (o : Option (Oe α)) (g : α → Rho → Option β) : Option β := match o with
  | some (.ok a ρ) => g a ρ
  | _ => none
@[simp] theorem bindN_ok {α β : Type} (a : α) (ρ : Rho) (g : α → Rho → Option β) : bindN (some (.ok a ρ)) g = g a ρ := rfl
@[simp] theorem bindN_er {α β : Type} (c : Nat) (fs : List PyData) (ρ : Rho) (g : α → Rho → Option β) : bindN (some (.er c fs ρ)) g = none := rfl
@[simp] theorem bindN_none {α β : Type} (g : α → Rho → Option β) : bindN none g = none := rfl
def lcL (g : GM) (vs : List Nat) (c : Rho → Option (Oe Bool)) (f : EM) : List PyData → Rho → List PyData → Option (Oe R)
  | [], ρ, acc => some (.ok (.own (.list acc)) ρ)
  | x :: xs, ρ, acc => match g x ρ with
    | none => none
    | some ρ1 => bindN (c ρ1) fun b ρ2 => if b = true then bindN (f ρ2) fun r ρ3 => match frz ρ3 r with
        | some (d, ρ4) => if acc.length < lim then lcL g vs c f xs (wipeR ρ4 vs) (acc ++ [d]) else none
        | none => none
      else lcL g vs c f xs (wipeR ρ2 vs) acc
def lcM (it : IM) (g : GM) (vs : List Nat) (c : Rho → Option (Oe Bool)) (f : EM) : EM := fun ρ => bindO (it ρ) fun ds ρ1 => lcL g vs c f ds (wipeR ρ1 vs) []
def yesT : Rho → Option (Oe Bool) := fun ρ => some (.ok true ρ)
/-- within a comprehension no exception may leave -/
abbrev W0 : WX := fun _ _ _ _ => False
theorem wipeR_length (ρ : Rho) : ∀ vs : List Nat, (wipeR ρ vs).length = ρ.length
  | [] => rfl
  | v :: vs => by unfold wipeR; rw [List.length_set, wipeR_length ρ vs]
theorem wipeR_some {ρ : Rho} {i : Nat} {x : R} : ∀ {vs : List Nat}, (wipeR ρ vs)[i]? = some (some x) → ρ[i]? = some (some x) ∧ i ∉ vs
  | [], h => ⟨h, by simp⟩
  | v :: vs, h => by
    unfold wipeR at h
    by_cases hi : v = i
    · subst hi
      by_cases hv : v < (wipeR ρ vs).length
      · rw [List.getElem?_set_self hv] at h; cases h
      · rw [List.getElem?_eq_none (by simpa using hv)] at h; cases h
    · rw [List.getElem?_set_ne hi] at h
      obtain ⟨h1, h2⟩ := wipeR_some h
      exact ⟨h1, by simp only [List.mem_cons, not_or]; exact ⟨fun e => hi e.symm, h2⟩⟩
theorem wipe_other {σ : L2.St} {i : Nat} : ∀ {vs : List Nat}, i ∉ vs → (wipe σ vs)[i]? = σ[i]?
  | [], _ => rfl
  | v :: vs, h => by
    unfold wipe
    rw [List.getElem?_set_ne (fun e => h (by simp [e])), wipe_other (fun z => h (List.mem_cons_of_mem _ z))]
theorem wipeR_other {ρ : Rho} {i : Nat} : ∀ {vs : List Nat}, i ∉ vs → (wipeR ρ vs)[i]? = ρ[i]?
  | [], _ => rfl
  | v :: vs, h => by
    unfold wipeR
    rw [List.getElem?_set_ne (fun e => h (by simp [e])), wipeR_other (fun z => h (List.mem_cons_of_mem _ z))]
theorem wipe_in {σ : L2.St} {i : Nat} : ∀ {vs : List Nat}, i ∈ vs → i < σ.length → (wipe σ vs)[i]? = some none
  | v :: vs, h, hl => by
    unfold wipe
    by_cases e : v = i
    · subst e
      rw [List.getElem?_set_self (by rw [wipe_length]; exact hl)]
    · rw [List.getElem?_set_ne e]
      exact wipe_in ((List.mem_cons.mp h).elim (fun z => absurd z.symm e) id) hl
theorem wipe_eq {σ σ2 : L2.St} {vs : List Nat} (hl : σ2.length = σ.length) (h : ∀ i, i ∉ vs → σ2[i]? = σ[i]?) : wipe σ2 vs = wipe σ vs := by
  refine List.ext_getElem? fun i => ?_
  by_cases hi : i ∈ vs
  · by_cases hlt : i < σ.length
    · rw [wipe_in hi hlt, wipe_in hi (by rw [hl]; exact hlt)]
    · rw [List.getElem?_eq_none (by rw [wipe_length, hl]; omega), List.getElem?_eq_none (by rw [wipe_length]; omega)]
  · rw [wipe_other hi, wipe_other hi, h i hi]
section
variable {T : Tb} {H : Hp} {F : Reg} {O : Ows} {σ : L2.St} {ρ : Rho} {vs : List Nat}
theorem EnvR.unwipe (E : EnvR T H F O (wipe σ vs) ρ) : EnvR T H F O σ ρ :=
  ⟨by rw [E.len, wipe_length], fun i r e => let ⟨v, h1, h2⟩ := E.at_ i r e; ⟨v, (wipe_some h1).1, h2⟩, E.own, E.inj, E.nf, E.lv, E.tb⟩
theorem EnvR.wiped (E : EnvR T H F O σ ρ) : ∃ O', EnvR T H F O' (wipe σ vs) (wipeR ρ vs) ∧ Sub O' O := by
  have sb : Sub (fun j => if j ∈ vs then [] else O j) O := fun j a q => by
    have q' : a ∈ (if j ∈ vs then [] else O j) := q
    by_cases hj : j ∈ vs
    · rw [if_pos hj] at q'; cases q'
    · rw [if_neg hj] at q'; exact q'
  have ni : ∀ j a, a ∈ (if j ∈ vs then [] else O j) → j ∉ vs := fun j a q hj => by rw [if_pos hj] at q; cases q
  refine ⟨fun j => if j ∈ vs then [] else O j, ⟨by rw [wipe_length, wipeR_length]; exact E.len, fun i r e => ?_, fun i a e => ?_, fun i j a e1 e2 => E.inj i j a (sb i a e1) (sb j a e2), fun i a e => E.nf i a (sb i a e), E.lv, E.tb⟩, sb⟩
  · obtain ⟨h1, h2⟩ := wipeR_some e
    obtain ⟨v, h3, h4⟩ := E.at_ i r h1
    exact ⟨v, by rw [wipe_other h2]; exact h3, by rw [if_neg h2]; exact h4⟩
  · obtain ⟨r, h⟩ := E.own i a (sb i a e)
    exact ⟨r, by rw [wipeR_other (ni i a e)]; exact h⟩
/-- a list that is nobody's slot's changes -/
theorem EnvR.other {p : Addr} {o o' : HO} (E : EnvR T H F O σ ρ) (hp : H p = some o) (ns : ¬ Still o) (nf : ¬ F p) (no : ∀ i, p ∉ O i) (nc : NC o := by first | exact lst_nc | exact dK_nc | exact set_nc) : EnvR T (upd H p o') F O σ ρ ∧ Kept F H (upd H p o') := by
  have k : Kept F H (upd H p o') := fun b u h q => by
    by_cases e : b = p
    · subst e
      rw [hp] at h; cases h
      exact (q.elim (fun z => nf z.1) ns).elim
    · rw [upd_ne e]; exact h
  refine ⟨⟨E.len, fun i r e => ?_, E.own, E.inj, E.nf, fun b h => ?_, tabs_put E.tb hp nc⟩, k⟩
  · obtain ⟨v, h1, h2⟩ := E.at_ i r e
    exact ⟨v, h1, h2.mono k (fun _ h => h) fun a u ha hu => by have n : a ≠ p := fun z => no i (z ▸ ha); rw [upd_ne n]; exact hu⟩
  · by_cases e : b = p
    · subst e; exact (nf h).elim
    · rw [upd_ne e]; exact E.lv b h
end
section
variable {X : Cx} {T : Tb} {W : WX} {pr : Nat → Bool} {it : IM} {g : GM} {vs : List Nat} {c : Rho → Option (Oe Bool)} {f : EM}
theorem tof_N {α β γ : Type} {Ra : Tell α β} {σ : L2.St} {ρ : Rho} {H : Hp} {F : Reg} {O : Ows} {h : Rho → Option (Oe α)} {k : α → Rho → Option γ} {Q' : β → Hp → Prop} {Pp : Option γ → Prop} (hn : ¬ Pp none) (E : EnvR T H F O σ ρ) (P : Pp (bindN (h ρ) k))
    (kk : ∀ v H1 a ρ1 F1 O1, Ext false H F O H1 F1 O1 → EnvR T H1 F1 O1 σ ρ1 → Ra σ H H1 F1 O1 v a → Pp (k a ρ1) → Q' v H1) : Tof T W0 Ra h σ H Q' := by
  refine ⟨ρ, F, O, E, ?_⟩
  cases q : h ρ with
  | none => rw [q] at P; exact hn P
  | some o =>
    rw [q] at P
    cases o with
    | ok a ρ1 => exact fun v H1 F1 O1 x1 E1 r1 => kk v H1 a ρ1 F1 O1 x1 E1 r1 P
    | er c fs ρ1 => exact fun _ _ _ _ _ _ _ _ => hn P
theorem lc_of {σ : L2.St} {H : Hp} {Q : VK} (hpr : ∀ i, i ∉ vs → pr i = true) (h : Tof T W (tlE T) (lcM it g vs c f) σ H Q) : tLc (Tof T W (tlI T) it) (TGof T pr g) (Tof T W0 tlB c) (Tof T W0 (tlE T) f) vs σ H Q := by
  obtain ⟨ρ, F, O, E, P⟩ := h
  refine stp .refl E P fun J H1 ds ρ1 F1 O1 x1 y1 E1 r1 P1 => ?_
  intro D hD
  have hDB : H D = none := y1.live D hD
  obtain ⟨Ow, Ew, sw⟩ := E1.wiped (vs := vs)
  refine ⟨fun i m H' => ∃ ρ' F' O' acc va, m = ds.length - i ∧ i ≤ ds.length ∧ Ext false H F O H' F' O' ∧ EnvR T H' F' O' (wipe σ vs) ρ' ∧ H' D = some (.lst va) ∧ DFs T.K H' F' va acc ∧ ¬ F' D ∧ (∀ j, D ∉ O' j) ∧ Kept F1 H1 H' ∧ (∀ b, F1 b → F' b) ∧ Post T W (tlE T) σ H F O Q (lcL g vs c f (ds.drop i) ρ' acc),
    ⟨ds.length, wipeR ρ1 vs, F1, Ow, [], [], by simp, Nat.zero_le _, ?_, Ew.laid hD, upd_same, .nil, fun q => E1.lv D q hD, fun j q => E1.ne_new hD j (sw j D q), kept_all (kept_new hD), fun _ h => h, P1⟩, ?_⟩
  · have y2 : Ext false H F O (upd H1 D (.lst [])) F1 O1 := y1.trans (.laid hD)
    exact ⟨y2.keep, y2.live, y2.grow, y2.new, fun j b e => y2.own j b (sw j b e)⟩
  rintro i m H' ⟨ρ', F', O', acc, va, rfl, hi, x', E', hDl, sa, nD, oD, kp, gF, P'⟩
  by_cases hlt : i < ds.length
  · have hd : ds[i]? = some ds[i] := by simp [hlt]
    rw [List.drop_eq_getElem_cons hlt] at P'
    obtain ⟨go, yl⟩ := r1.go H' kp i _ hd
    refine .inr ⟨go, fun H2 => ∃ ρ' F' O' acc va, i + 1 ≤ ds.length ∧ Ext false H F O H2 F' O' ∧ EnvR T H2 F' O' (wipe σ vs) ρ' ∧ H2 D = some (.lst va) ∧ DFs T.K H2 F' va acc ∧ ¬ F' D ∧ (∀ j, D ∉ O' j) ∧ Kept F1 H1 H2 ∧ (∀ b, F1 b → F' b) ∧ Post T W (tlE T) σ H F O Q (lcL g vs c f (ds.drop (i + 1)) ρ' acc), fun H2 ⟨ρ2, F2, O2, ac, va, a, b⟩ => ⟨ds.length - (i + 1), by omega, ρ2, F2, O2, ac, va, rfl, a, b⟩, fun x H'' y => ?_⟩
    obtain ⟨kH, dx⟩ := yl x H'' y
    have gr : Gr H' F' H'' F' := ⟨kH, fun _ h => h, fun _ h => .inl h⟩
    refine ⟨ds[i], ρ', F', O', E'.gr gr, dx.mono .refl gF, ?_⟩
    have P2 : Post T W (tlE T) σ H F O Q (match g ds[i] ρ' with
      | none => none
      | some ρ1 => bindN (c ρ1) fun b ρ2 => if b = true then bindN (f ρ2) fun r ρ3 => match frz ρ3 r with
          | some (d, ρ4) => if acc.length < lim then lcL g vs c f (ds.drop (i + 1)) (wipeR ρ4 vs) (acc ++ [d]) else none
          | none => none
        else lcL g vs c f (ds.drop (i + 1)) (wipeR ρ2 vs) acc) := P'
    cases q : g ds[i] ρ' with
    | none => rw [q] at P2; exact P2.elim
    | some ρ2 =>
      rw [q] at P2
      dsimp only at P2
      refine fun σ3 O3 E3 k3 s3 => ?_
      have hw : wipe σ3 vs = wipe σ vs := by
        have e0 : wipe σ3 vs = wipe (wipe σ vs) vs := wipe_eq k3.1 fun j hj => k3.2 j (hpr j hj)
        rw [e0]
        exact wipe_eq (wipe_length σ vs) fun j hj => wipe_other hj
      have oD' : ∀ j, D ∉ O3 j := fun j z => oD j (s3 j D z)
      have x3 : Ext false H F O H'' F' O3 := ⟨fun b o h n z => kH b o (x'.keep b o h n z), fun b h => x'.live b (gr.live b h), x'.grow, x'.new, fun j b e => x'.own j b (s3 j b e)⟩
      have kp3 : Kept F1 H1 H'' := kp.trans gF (kept_all kH)
      have hD3 := kH D _ hDl
      have sa3 : DFs T.K H'' F' va acc := sa.mono (kept_all kH) fun _ h => h
      refine ⟨hw, ?_⟩
      refine tof_N (Pp := Post T W (tlE T) σ H F O Q) (fun z => z) E3 P2 fun b H4 b' ρ4 F4 O4 x4 E4 r4 P4 => ?_
      have r4' : b = b' := r4
      subst r4'
      have hD4 : H4 D = some (.lst va) := x4.keep D _ hD3 oD' trivial
      have nD4 : ¬ F4 D := fun z => by
        rcases x4.new D z with z | ⟨j, z⟩ | z
        · exact nD z
        · exact oD' j z
        · rw [hD3] at z; cases z
      have oD4 : ∀ j, D ∉ O4 j := fun j z => (x4.ow z).elim (fun ⟨k, y⟩ => oD' k y) fun y => by rw [hD3] at y; cases y
      have kp4 := kp3.trans gF (E3.kept x4)
      have sa4 : DFs T.K H4 F4 va acc := sa3.mono (E3.kept x4) x4.grow
      cases b with
      | false =>
        rw [if_neg Bool.false_ne_true] at P4 ⊢
        obtain ⟨O5, E5, s5⟩ := E4.wiped (vs := vs)
        rw [hw] at E5
        have y4 := x3.trans x4
        exact ⟨_, F4, O5, acc, va, hlt, ⟨y4.keep, y4.live, y4.grow, y4.new, fun j b e => y4.own j b (s5 j b e)⟩, E5, hD4, sa4, nD4, fun j z => oD4 j (s5 j D z), kp4, fun b h => x4.grow b (gF b h), P4⟩
      | true =>
        rw [if_pos rfl] at P4 ⊢
        refine tof_N (Pp := Post T W (tlE T) σ H F O Q) (fun z => z) E4 P4 fun v H5 r ρ5 F5 O5 x5 E5 r5 P5 => ?_
        have hD5 : H5 D = some (.lst va) := x5.keep D _ hD4 oD4 trivial
        have nD5 : ¬ F5 D := fun z => by
          rcases x5.new D z with z | ⟨j, z⟩ | z
          · exact nD4 z
          · exact oD4 j z
          · rw [hD4] at z; cases z
        have oD5 : ∀ j, D ∉ O5 j := fun j z => (x5.ow z).elim (fun ⟨k, y⟩ => oD4 k y) fun y => by rw [hD4] at y; cases y
        have kp5 := kp4.trans (fun b h => x4.grow b (gF b h)) (E4.kept x5)
        have sa5 : DFs T.K H5 F5 va acc := sa4.mono (E4.kept x5) x5.grow
        cases q6 : frz ρ5 r with
        | none => rw [q6] at P5; exact P5.elim
        | some p =>
          obtain ⟨d, ρ6⟩ := p
          rw [q6] at P5
          dsimp only at P5
          split at P5
          · rename_i hz
            have y5 := (x3.trans x4).trans x5
            obtain ⟨F6, O6, y6, E6, d6, g6, s6, n6⟩ := fz y5 (fun b h => (x3.trans x4).live b h) E5 r5 q6
            have nD6 : ¬ F6 D := fun z => by
              rcases n6 D z with z | ⟨j, z⟩ | z
              · exact nD5 z
              · exact oD5 j z
              · rw [hD4] at z; cases z
            have oD6 : ∀ j, D ∉ O6 j := fun j z => oD5 j (s6 j D z)
            have sa6 : DFs T.K H5 F6 (va ++ [v]) (acc ++ [d]) := (sa5.mono .refl g6).append (.cons d6 .nil)
            refine ⟨va, hD5, by rw [sa5.length]; exact Nat.lt_of_lt_of_le hz (by decide), ?_⟩
            obtain ⟨O7, E7, s7⟩ := E6.wiped (vs := vs)
            rw [hw] at E7
            obtain ⟨E8, k8⟩ := E7.other (o' := .lst (va ++ [v])) hD5 (fun z => z) nD6 fun j z => oD6 j (s7 j D z)
            refine ⟨_, F6, O7, acc ++ [d], va ++ [v], hlt, ⟨fun b o h n z => ?_, fun b h => ?_, y6.grow, y6.new, fun j b e => y6.own j b (s7 j b e)⟩, E8, upd_same, sa6.mono k8 fun _ h => h, nD6, fun j z => oD6 j (s7 j D z), ?_, fun b h => g6 b (x5.grow b (x4.grow b (gF b h))), P5⟩
            · rw [upd_ne (ne_of_none h hDB)]
              exact y6.keep b o h n z
            · by_cases e : b = D
              · subst e; exact hDB
              · rw [upd_ne e] at h
                exact y6.live b h
            · exact kp5.trans (fun b h => g6 b (x5.grow b (x4.grow b (gF b h)))) k8
          · exact P5.elim
  · have e : i = ds.length := by omega
    subst e
    rw [List.drop_length] at P'
    exact .inl ⟨r1.stop H' kp _ (Nat.le_refl _) (Nat.le_refl _), P' (.ref D) H' F' O' x' E'.unwipe ⟨D, rfl, hDB, nD, oD, va, hDl, sa⟩⟩
end
end DL
namespace DL
open PySem L2 PyProof.Rows
def iSeq (K : PySem.W.Frag) (tl : TE) : TI := fun σ H R => tl σ H fun x H1 => ∃ a, x = .ref a ∧ ((∃ xs, SqL K H1 a xs ∧ R (Itl K a) H1) ∨ (∃ xs, SqT K H1 a xs ∧ R (Itt K a) H1))
theorem pi_seq {X : Cx} {tg l : Expr} {tl : TE} (hl : PE X l tl) : PI X tg l (iSeq X.K tl) := by
  constructor
  intro pins s σ H R I h
  refine thn (hl.run pins s σ H _ I h) ?_
  rintro v s1 ⟨x, H1, I1, r1, a, rfl, z⟩
  have fr : ∀ b ∈ [s1.heap.objs.size], FpOk X pins H1 b := by
    intro b hb
    obtain rfl : b = s1.heap.objs.size := by simpa using hb
    exact I1.fpOk (Nat.le_refl _) (I1.hok.fresh (Nat.le_refl _))
  have J1 : ∀ o : Obj, L2.Inv X pins σ H1 { s1 with heap := s1.heap.push o } := fun o => I1.kept (t' := s1.toks) fun b u e => Heap.get?_push_of_some _ e
  cases r1
  rcases z with ⟨xs, hq, q⟩ | ⟨xs, hq, q⟩
  · obtain ⟨its, rv, p, _⟩ := I1.list hq
    refine wpAny_pyIter_list p.isList ?_
    exact ⟨_, [s1.heap.objs.size], _, _, H1, rfl, J1 _, turn_list a _, ⟨_, Heap.get?_push_size _ rfl, rfl, rfl⟩, fr, q⟩
  · obtain ⟨its, rv, p, _⟩ := I1.tuple hq
    refine wpAny_pyIter_tuple (show s1.heap.IsTuple a its.toArray from p) ?_
    exact ⟨_, [s1.heap.objs.size], _, _, H1, rfl, J1 _, turn_tuple a _, ⟨_, Heap.get?_push_size _ rfl, rfl, rfl⟩, fr, q⟩
/-- the items of a list or tuple -/
def itemsOf : PyData → Option (List PyData)
  | .list ds => some ds
  | .tuple ds => some ds
  | _ => none
def iM (f : EM) : IM := fun ρ => bindO (f ρ) fun r ρ1 => match frz ρ1 r with
  | some (d, ρ2) => (itemsOf d).map fun ds => .ok ds ρ2
  | none => none
def rngL (lo : Int) (n : Nat) : List PyData := (List.range n).map fun (k : Nat) => .int (lo + (k : Int))
/-- within the machine's bounds, asked so that nothing is counted down -/
def inW (j : Int) : Bool := Nat.ble j.toNat 4611686018427387903 && Nat.ble (-j).toNat 4611686018427387904
theorem inW_of {j : Int} (h : inW j = true) : -(2 ^ 62) ≤ j ∧ j < 2 ^ 62 := by
  unfold inW at h
  rw [Bool.and_eq_true] at h
  have a := Nat.le_of_ble_eq_true h.1
  have b := Nat.le_of_ble_eq_true h.2
  omega
theorem inW_is {j : Int} (h1 : -4611686018427387904 ≤ j) (h2 : j < 4611686018427387904) : inW j = true := by
  unfold inW
  rw [Bool.and_eq_true]
  exact ⟨Nat.ble_eq_true_of_le (by omega), Nat.ble_eq_true_of_le (by omega)⟩
def irM1 (fa : EM) : IM := fun ρ => bindO (fa ρ) fun r ρ1 => match r with
  | .dat (.int j) => if inW j = true then some (.ok (rngL 0 j.toNat) ρ1) else none
  | _ => none
def irM2 (fa fb : EM) : IM := fun ρ => bindO (fa ρ) fun r ρ1 => bindO (fb ρ1) fun s ρ2 => match r, s with
  | .dat (.int i), .dat (.int j) => if inW i = true ∧ inW j = true then some (.ok (rngL i (j - i).toNat) ρ2) else none
  | _, _ => none
section
variable {T : Tb} {K : PySem.W.Frag}
theorem LsR.kept {F : Reg} {H H' : Hp} {a : Addr} {xs : List V} (f : F a) (k : Kept F H H') (h : LsR K H a xs) : LsR K H' a xs := h.imp (k.rdF f) id
end
section
variable {T : Tb} {F : Reg} {H : Hp}
theorem it_list {a : Addr} {xs : List V} {ds : List PyData} (r : ∀ H', Kept F H H' → SqL T.K H' a xs) (s : DFs T.K H F xs ds) : ItOk T (Itl T.K a) F H ds :=
  ⟨fun H' k i d h => by
    obtain ⟨v, hv, dv⟩ := s.get h
    refine ⟨⟨xs, v, r H' k, hv⟩, fun x H'' y => ?_⟩
    obtain ⟨rfl, y⟩ := y
    have e := y xs (r _ k)
    rw [hv] at e
    cases e
    exact ⟨fun _ _ h => h, dv.mono k fun _ h => h⟩, fun H' k i h _ => ⟨xs, r H' k, by rw [s.length]; exact h⟩⟩
theorem it_tup {a : Addr} {xs : List V} {ds : List PyData} (r : ∀ H', Kept F H H' → SqT T.K H' a xs) (s : DFs T.K H F xs ds) : ItOk T (Itt T.K a) F H ds :=
  ⟨fun H' k i d h => by
    obtain ⟨v, hv, dv⟩ := s.get h
    refine ⟨⟨xs, v, r H' k, hv⟩, fun x H'' y => ?_⟩
    obtain ⟨rfl, y⟩ := y
    have e := y xs (r _ k)
    rw [hv] at e
    cases e
    exact ⟨fun _ _ h => h, dv.mono k fun _ h => h⟩, fun H' k i h _ => ⟨xs, r H' k, by rw [s.length]; exact h⟩⟩
theorem rngL_get {lo : Int} {n i : Nat} {d : PyData} (h : (rngL lo n)[i]? = some d) : i < n ∧ d = .int (lo + i) := by
  unfold rngL at h
  rw [List.getElem?_map] at h
  by_cases hi : i < n
  · rw [List.getElem?_range hi] at h
    cases h
    exact ⟨hi, rfl⟩
  · rw [List.getElem?_eq_none (by simpa using hi)] at h
    cases h
theorem rngL_len (lo : Int) (n : Nat) : (rngL lo n).length = n := by unfold rngL; simp
theorem it_rng {lo : Int} {n : Nat} : ItOk T (Itr lo n) F H (rngL lo n) :=
  ⟨fun H' k i d h => by
    obtain ⟨hi, rfl⟩ := rngL_get h
    refine ⟨hi, fun x H'' y => ?_⟩
    obtain ⟨rfl, rfl⟩ := y
    exact ⟨fun _ _ h => h, .int _⟩, fun H' k i h _ => by rw [rngL_len] at h; exact h⟩
end
section
variable {X : Cx} {T : Tb} {W : WX} {tg e a b : Expr} {f fa fb : EM} {pos p : Pos}
theorem si_seq (hK : X.K = T.K) (he : SE X T W e f) : SI X T W tg e (iM f) := by
  refine pi_imp (pi_seq he) fun σ H Q ⟨ρ, F, O, E, P⟩ => ?_
  rw [hK]
  refine stp .refl E P fun v H1 r ρ1 F1 O1 x1 y1 E1 r1 P1 => ?_
  cases q : frz ρ1 r with
  | none => rw [q] at P1; exact P1.elim
  | some z =>
    obtain ⟨d, ρ2⟩ := z
    rw [q] at P1
    dsimp only at P1
    obtain ⟨F2, O2, y2, E2, d2, _, _, _⟩ := fz y1 (fun _ h => h) E1 r1 q
    cases d2 with
    | @lst a xs ds f r s => exact ⟨a, rfl, .inl ⟨xs, .inl r, P1 _ _ _ _ y2 E2 (it_list (fun H' k => .inl (k.rdF f r)) s)⟩⟩
    | @lstK a xs ds r s => exact ⟨a, rfl, .inl ⟨xs, LsR.sq (.inr r), P1 _ _ _ _ y2 E2 (it_list (fun H' k => LsR.sq (.inr r)) s)⟩⟩
    | @tup a xs ds r s => exact ⟨a, rfl, .inr ⟨xs, r, P1 _ _ _ _ y2 E2 (it_tup (fun H' k => k.sqT r) s)⟩⟩
    | non => exact P1.elim
    | bl b => exact P1.elim
    | int i => exact P1.elim
    | str x => exact P1.elim
    | dct a b c => exact P1.elim
    | dcT a b c d => exact P1.elim
theorem int_of {H : Hp} {F : Reg} {v : V} {i : Int} (h : DF T.K H F v (.int i)) : v = .int i := by cases h; rfl
theorem si_rng1 (hg : L2.Gl X "range") (hm : X.mg "range" = none) (ha : SE X T W a fa) (hs : starEach [a] X.env = [(false, eval a X.env)] := by rfl) : SI X T W tg (.Call (.Name "range" p) [a] [] pos) (irM1 fa) := by
  refine pi_imp (pi_range1 hg hm (pa_cons ha pa_nil hs) hs) fun σ H Q ⟨ρ, F, O, E, P⟩ => ?_
  refine stp .refl E P fun v H1 r ρ1 F1 O1 x1 y1 E1 r1 P1 => ?_
  split at P1
  · rename_i j
    split at P1
    · rename_i hz
      exact ⟨j, by rw [int_of r1], (inW_of hz).1, (inW_of hz).2, P1 _ _ _ _ y1 E1 it_rng⟩
    · exact P1.elim
  · exact P1.elim
end
theorem Cxt.blk {X : Cx} {T : Tb} {W : WX} {n : Nat} (c : Cxt X T W n) (s : Shared) (H : Hp) (scope : Scope) (env : Env) (fp : List Addr) : Cxt (X.blk s H scope env fp) T W0 n :=
  ⟨c.hK, c.hw, c.calm, c.room, c.gd, takes0, PassesOwn.never, c.nd, c.sm⟩
def STs (X : Cx) (T : Tb) (ifs : List Expr) (c : Rho → Option (Oe Bool)) : Prop := PTs X ifs (Tof T W0 tlB c)
section
variable {X : Cx} {T : Tb} {W : WX} {elt tg iter : Expr} {ifs : List Expr} {scope : Scope} {own : List (Str × Nat)} {pos : Pos} {it : IM} {g : GM} {c : Rho → Option (Oe Bool)} {f : EM} {pr : Nat → Bool}
theorem sts_nil : STs X T [] yesT := ⟨fun pins s σ H Q I ⟨ρ, F, O, E, P⟩ => pts_nil.run pins s σ H Q I (P true H F O .refl E rfl)⟩
theorem sts_one {e : Expr} (h : ST X T W0 e c) : STs X T [e] c := pts_one h
/-- pr: all slots but the block's own -/
def prB (vs : List Nat) (i : Nat) : Bool := !vs.contains i
theorem prB_ok {vs : List Nat} : ∀ i, i ∉ vs → prB vs i = true := fun i h => by simp [prB, h]
theorem se_lc (hc : X.calm = true) (hN : X.N.Nodup) (hi : SI X T W tg iter it) (ok : BlkOk X.N X.env.scope scope own)
    (hg : ∀ (s : Shared) (H : Hp) (C : Addr) (cl : List (Str × Addr)) (fp : List Addr), SG (X.blk s H scope (compEnvC scope cl C X.env) fp) T (prB (own.map (·.2))) tg g)
    (ht : ∀ (s : Shared) (H : Hp) (C : Addr) (cl : List (Str × Addr)) (fp : List Addr), STs (X.blk s H scope (compEnvC scope cl C X.env) fp) T ifs c)
    (he : ∀ (s : Shared) (H : Hp) (C : Addr) (cl : List (Str × Addr)) (fp : List Addr), SE (X.blk s H scope (compEnvC scope cl C X.env) fp) T W0 elt f) (hs : ∀ x, foldedSetIterable iter X.env x = pure x := by intro _; rfl) :
    SE X T W (.ListComp elt [⟨tg, iter, ifs, 0⟩] scope pos) (lcM it g (own.map (·.2)) c f) :=
  pe_imp (pe_lc hc hN hi ok hg ht he hs) fun _ _ _ h => lc_of prB_ok h
end
end DL
namespace DL
open PySem L2 PyProof.Rows
abbrev Sem := List R → Option (Oe R)
def PostF (T : Tb) (vs : List V) (H : Hp) (F : Reg) (O : Ows) (Q : VK) (E : XK) : Option (Oe R) → Prop
  | some (.ok r ρ) => ∀ v H' F' O', Ext true H F O H' F' O' → EnvR T H' F' O' (vs.map some) ρ → ResR T H H' F' O' [] v r → Q v H'
  | some (.er c fs ρ) => ∀ cls d H' F' O', Ext true H F O H' F' O' → EnvR T H' F' O' (vs.map some) ρ → ExcR T H' cls d c fs → E cls d H'
  | none => False
/-- a def's promise, by what it comes to -/
def spOf (T : Tb) (n : Nat) (sem : Sem) : Sp := fun vs H Q E => ∃ args F O, vs.length = n ∧ EnvR T H F O (vs.map some) (args.map some) ∧ PostF T vs H F O Q E (sem args)
/-- what the caller's slots hold behind a call: pr: the parameters that the def never stores -/
def outs (n : Nat) (pr : Nat → Bool) (ρ : Rho) : Rho := (List.range n).map fun i => if pr i = true then ρ[i]?.join else none
def runD (n m : Nat) (pr : Nat → Bool) (f : SM) : Sem := fun args => if args.length = n then match f (args.map some ++ List.replicate (m - n) none) with
    | some (.nx ρ) => some (.ok (.dat .none) (outs n pr ρ))
    | some (.rt r ρ) => some (.ok r (outs n pr ρ))
    | some (.er c fs ρ) => some (.er c fs (outs n pr ρ))
    | _ => none
  else none
/-- a def's promise where the walk knows that no repr runs around it -/
structure FnG (P : Program) (w : World) (K : PySem.W.Frag) (mg : Str → Option Value) (base : Heap) (k : Nat) (f : Addr) (fd : FuncData) (ps : List Str) (sp : Sp) : Prop where
  len : ∀ vs H Q E, sp vs H Q E → vs.length = ps.length
  run : ∀ (A : Around) (outer : List Env) (s : Shared) (H : Hp) (args : Args) (us : List Value) (vs : List V) (Q : VK) (E : XK), A.guards = some [] → Room k A → Env0 P w K mg base A outer s H → BindsTo s fd args (ps.zip us) →
    Vals vs us → sp vs H Q E → codeAny (model P w) A (.call (.ref f) args) (CR (L2.CX P w) outer P w H s Q E) s
section
variable {T : Tb}
theorem outs_get {n : Nat} {pr : Nat → Bool} {ρ : Rho} {i : Nat} {r : R} (h : (outs n pr ρ)[i]? = some (some r)) : i < n ∧ pr i = true ∧ ρ[i]? = some (some r) := by
  unfold outs at h
  rw [List.getElem?_map] at h
  by_cases hi : i < n
  · rw [List.getElem?_range hi] at h
    have h' : (if pr i = true then ρ[i]?.join else none) = some r := Option.some.inj h
    by_cases hp : pr i = true
    · rw [if_pos hp] at h'
      cases q : ρ[i]? with
      | none => rw [q] at h'; cases h'
      | some x => rw [q] at h'; exact ⟨hi, hp, by rw [show x = some r from h']⟩
    · rw [if_neg hp] at h'; cases h'
  · rw [List.getElem?_eq_none (by simpa using hi)] at h
    cases h
theorem outs_put {n : Nat} {pr : Nat → Bool} {ρ : Rho} {i : Nat} {r : R} (hi : i < n) (hp : pr i = true) (h : ρ[i]? = some (some r)) : (outs n pr ρ)[i]? = some (some r) := by
  unfold outs
  rw [List.getElem?_map, List.getElem?_range hi]
  show some (if pr i = true then ρ[i]?.join else none) = _
  rw [if_pos hp, h]
  rfl
theorem start_get {N : List Str} {vs : List V} {i : Nat} {v : V} (h : (L2.start N vs)[i]? = some (some v)) : vs[i]? = some v := by
  unfold L2.start at h
  by_cases hi : i < vs.length
  · rw [List.getElem?_append_left (by simpa using hi), List.getElem?_map] at h
    cases q : vs[i]? with
    | none => rw [q] at h; cases h
    | some u => rw [q] at h; cases h; rfl
  · rw [List.getElem?_append_right (by simpa using hi), List.getElem?_replicate] at h
    split at h <;> cases h
theorem start_put {N : List Str} {vs : List V} {i : Nat} {v : V} (h : vs[i]? = some v) : (L2.start N vs)[i]? = some (some v) := by
  have hi : i < vs.length := lt_of_at h
  unfold L2.start
  rw [List.getElem?_append_left (by simpa using hi), List.getElem?_map, h]
  rfl
/-- the slots at a def's entry -/
theorem env_start {N : List Str} {H : Hp} {F : Reg} {O : Ows} {vs : List V} {args : List R} (hN : vs.length ≤ N.length) (E : EnvR T H F O (vs.map some) (args.map some)) : EnvR T H F O (L2.start N vs) (args.map some ++ List.replicate (N.length - args.length) none) := by
  have hl : args.length = vs.length := by have := E.len; simpa using this
  have get : ∀ i r, (args.map some ++ List.replicate (N.length - args.length) none)[i]? = some (some r) → (args.map some)[i]? = some (some r) := fun i r e => by
    by_cases hi : i < args.length
    · rw [List.getElem?_append_left (by simpa using hi)] at e; exact e
    · rw [List.getElem?_append_right (by simpa using hi), List.getElem?_replicate] at e
      split at e <;> cases e
  refine ⟨?_, fun i r e => ?_, fun i a e => ?_, E.inj, E.nf, E.lv, E.tb⟩
  · unfold L2.start
    simp only [List.length_append, List.length_map, List.length_replicate]
    omega
  · obtain ⟨v, h1, h2⟩ := E.at_ i r (get i r e)
    refine ⟨v, ?_, h2⟩
    rw [List.getElem?_map] at h1
    cases q : vs[i]? with
    | none => rw [q] at h1; cases h1
    | some u => rw [q] at h1; cases h1; exact start_put q
  · obtain ⟨r, e1⟩ := E.own i a e
    have hi : i < args.length := by have := lt_of_at e1; simpa using this
    exact ⟨r, by rw [List.getElem?_append_left (by simpa using hi)]; exact e1⟩
/-- the parameters behind a def's end -/
theorem env_out {N : List Str} {φ : Fm} {H' : Hp} {F' : Reg} {O' : Ows} {σ' : L2.St} {ρ : Rho} {vs : List V} (hn : vs.length = φ.n) (S : StR T φ H' F' O' σ' ρ) (k : Keeps φ.pr (L2.start N vs) σ') :
    ∃ O2, EnvR T H' F' O2 (vs.map some) (outs φ.n φ.pr ρ) ∧ Sub O2 O' := by
  have E := S.E
  have sb : Sub (fun i => if i < φ.n ∧ φ.pr i = true then O' i else []) O' := fun i a e => by
    have e' : a ∈ (if i < φ.n ∧ φ.pr i = true then O' i else []) := e
    split at e'
    · exact e'
    · cases e'
  refine ⟨fun i => if i < φ.n ∧ φ.pr i = true then O' i else [], ⟨?_, fun i r e => ?_, fun i a e => ?_, fun i j a e1 e2 => E.inj i j a (sb i a e1) (sb j a e2), fun i a e => E.nf i a (sb i a e), E.lv, E.tb⟩, sb⟩
  · unfold outs
    simp [hn]
  · obtain ⟨h1, h2, h3⟩ := outs_get e
    obtain ⟨v, h4, h5⟩ := E.at_ i r h3
    refine ⟨v, ?_, by rw [if_pos ⟨h1, h2⟩]; exact h5⟩
    rw [k.2 i h2] at h4
    rw [List.getElem?_map, start_get h4]
    rfl
  · have e' : a ∈ (if i < φ.n ∧ φ.pr i = true then O' i else []) := e
    split at e'
    · rename_i h
      obtain ⟨r, e1⟩ := E.own i a e'
      exact ⟨r, outs_put h.1 h.2 e1⟩
    · cases e'
theorem Ext.sub {H H' : Hp} {F F' : Reg} {O O' O2 : Ows} {s : Bool} (x : Ext s H F O H' F' O') (sb : Sub O2 O') : Ext s H F O H' F' O2 := ⟨x.keep, x.live, x.grow, x.new, fun i b e => x.own i b (sb i b e)⟩
theorem ResR.sub {H0 H : Hp} {F : Reg} {O O2 : Ows} {σ : L2.St} {v : V} (sb : Sub O2 O) : ∀ {r : R}, ResR T H0 H F O σ v r → ResR T H0 H F O2 σ v r
  | .dat _, h => h
  | .own _, ⟨a, h1, h2, h3, h4, h5⟩ => ⟨a, h1, h2, h3, fun i e => h4 i (sb i a e), h5⟩
  | .slt _, h => h
  | .fn _, h => h
  | .st _, ⟨a, h1, h2, h3, h4, h5⟩ => ⟨a, h1, h2, h3, fun i e => h4 i (sb i a e), h5⟩
  | .ex _ _, h => h
  | .two _ _, ⟨p, a, b, h1, h2, h3, ⟨a1, a2, a3, a4⟩, b1, b2, b3, b4⟩ => ⟨p, a, b, h1, h2, h3, ⟨a1, a2, fun i e => a3 i (sb i a e), a4⟩, b1, b2, fun i e => b3 i (sb i b e), b4⟩
  | .obj _, ⟨L, h1, h2⟩ => ⟨L, fun b hb => ⟨(h1 b hb).1, (h1 b hb).2.1, fun i e => (h1 b hb).2.2 i (sb i b e)⟩, h2⟩
  | .prt _ _, h => h
/-- from a def's promise to its body's reading -/
theorem body_of {N : List Str} {n : Nat} {pr : Nat → Bool} {m : SM} {vs : List V} {H : Hp} {Q : VK} {E : XK} (hN : n ≤ N.length) (h : spOf T n (runD n N.length pr m) vs H Q E) :
    TSof T (fun cls d _ H' => E cls d H') ⟨H, n, pr⟩ m { nx := fun _ H' => Q .non H', rt := Q } (L2.start N vs) H := by
  obtain ⟨args, F, O, hl, En, P⟩ := h
  have hla : args.length = n := by have := En.len; simp at this; omega
  unfold runD at P
  rw [if_pos hla] at P
  have E0 := env_start (N := N) (by omega) En
  rw [hla] at E0
  refine ⟨_, F, O, ⟨E0, fun b h => h, fun i a hi e => ?_⟩, ?_⟩
  · obtain ⟨r, e1⟩ := En.own i a e
    have h1 := lt_of_at e1
    simp at h1
    have hi' : n ≤ i := hi
    omega
  cases q : m (args.map some ++ List.replicate (N.length - n) none) with
  | none => rw [q] at P; exact P
  | some o =>
    rw [q] at P
    cases o with
    | nx ρ =>
      intro σ' H' F' O' x S k
      obtain ⟨O2, E2, sb⟩ := env_out hl S k
      exact P .non H' F' O2 (x.sub sb) E2 .non
    | rt r ρ =>
      intro v σ' H' F' O' x S k rr
      obtain ⟨O2, E2, sb⟩ := env_out hl S k
      exact P v H' F' O2 (x.sub sb) E2 (rr.sub sb)
    | er c fs ρ =>
      intro cls d σ' H' F' O' x S k rr
      obtain ⟨O2, E2, sb⟩ := env_out hl S k
      exact P cls d H' F' O2 (x.sub sb) E2 rr
    | bk ρ => exact P.elim
    | ct ρ => exact P.elim
end
/-- a def by its body: m is what the body comes to -/
theorem fn_g {T : Tb} {P : Program} {w : World} {K : PySem.W.Frag} {mg : Str → Option Value} {base : Heap} {k n : Nat} {x qual : Str} {st : Stmt} {f : Addr} {fd : FuncData} {N ps : List Str} {pr : Nat → Bool} {m : SM} (G : Fun K x qual st f fd) (S : FnScope N ps (defScope st)) (hn : ps.length = n)
    (hK : K = T.K) (hw : w = T.w) (hsm : base.get? sysModules ≠ none)
    (body : ∀ (X : Cx) (W : WX) (H : Hp), X.prog = P → X.w = w → X.K = K → X.mg = mg → X.base = base → X.N = N → X.env.scope = defScope st → X.env.scope.kind = .function → X.fn = (fun _ => true) → Cxt X T W k → SB X T W ⟨H, n, pr⟩ (defBody st) m) :
    FnG P w K mg base (k + 1) f fd ps (spOf T n (runD n N.length pr m)) := by
  have hN : n ≤ N.length := by
    have h := congrArg List.length S.pre
    rw [List.length_take] at h
    omega
  obtain ⟨oc, od, kV, doc, pm, an, cdv, ct, osl, rfl, lk, hcd⟩ := G.ex
  refine ⟨fun vs H Q E ⟨_, _, _, hl, _⟩ => hl.trans hn.symm, ?_⟩
  intro A outer s H args us vs Q E hg hr e0 hb r hsp
  have hl : vs.length = ps.length := by obtain ⟨_, _, _, q, _⟩ := hsp; exact q.trans hn.symm
  have kin : K.In s.heap := e0.mod.kin.keeps fun b o e => (e0.bs b o e).1
  have lim : s.heap.NoLimit := e0.mod.nolimit.keeps fun b o e => (e0.bs b o e).1
  have kinds : ∀ y ∈ ps.zip us, (defScope st).names.lookup y.1 = some .local ∨ ((defScope st).names.lookup y.1 = some .cell ∧ ((cellsFrom (s.heap.objs.size + 1) (defScope st).names []).lookup y.1).isSome = true) := by
    rintro ⟨y, v⟩ hy
    exact (S.par y (List.of_mem_zip hy).1).imp id fun q => ⟨q, PySem.W.cellsFrom_some _ _ _ (.inl q)⟩
  refine codeAny_call_function hr.depth (kin _ _ lk) rfl S.co S.gen rfl (PySem.W.codeRec_of kin hcd) (hb _ _ _ _ ?_)
  refine wpAny_newFunctionEnv_cells S.kind kinds ?_
  rintro env rfl s1 ic
  refine ⟨lim.keeps ic.toInCall.keep, codeAny_func ?_⟩
  let X := cxOf (L2.CX P w) P w K mg base N qual (defScope st) f cdv A outer s H E
  have I : L2.Inv X [] (L2.start N vs) H s1 := inv_start S hr.hd e0 hl r ic
  have cx : Cxt X T (fun cls d _ H' => E cls d H') k := ⟨hK, hw, rfl, hr.deeper _, hg, takes_of rfl rfl rfl rfl, passes_of rfl, S.nd, hsm⟩
  have B := body X _ H rfl rfl rfl rfl rfl rfl rfl S.kind rfl cx
  refine wpAny_mono (B.run [] s1 (L2.start N vs) H _ I (body_of hN hsp)) ?_ fun _ _ z => z
  intro fl s' hs
  cases fl with
  | ret u =>
    obtain ⟨v, σ', H', J, rv, q⟩ := hs
    exact ⟨v, H', J.os, J.bare, J.base, J.hok, rv, q⟩
  | next =>
    obtain ⟨σ', H', J, q⟩ := hs
    exact ⟨.non, H', J.os, J.bare, J.base, J.hok, rfl, q⟩
  | brk =>
    obtain ⟨_, _, _, q⟩ := hs
    exact q.elim
  | cont =>
    obtain ⟨_, _, _, q⟩ := hs
    exact q.elim
/-- an object that may be handed on -/
def okO : OD → Bool
  | .pr _ _ _ => false
  | .many _ xs => xs.all Option.isSome
  | _ => true
def pass1 (ρ : Rho) : R → Option R
  | .dat d => some (.dat d)
  | .fn k => some (.fn k)
  | .ex c fs => some (.ex c fs)
  | .obj o => if okO o = true then some (.obj o) else none
  | .slt i => match ρ[i]? with
    | some (some (.own d)) => some (.own d)
    | some (some (.dat d)) => some (.dat d)
    | some (some (.st xs)) => some (.st xs)
    | some (some (.obj o)) => if okO o = true then some (.obj o) else none
    | _ => none
  | _ => none
def passA (ρ : Rho) : List R → Option (List R)
  | [] => some []
  | r :: rs => match pass1 ρ r, passA ρ rs with
    | some a, some as => some (a :: as)
    | _, _ => none
def isSlt (j : Nat) : R → Bool
  | .slt i => i == j
  | _ => false
def posOf (j : Nat) : List R → Option Nat
  | [] => none
  | r :: rs => if isSlt j r = true then some 0 else (posOf j rs).map (· + 1)
/-- no new object among them -/
def noOb : List R → Bool
  | [] => true
  | .obj _ :: _ => false
  | _ :: rs => noOb rs
def dist : List R → Bool
  | [] => true
  | .slt i :: rs => (posOf i rs).isNone && dist rs
  | .obj _ :: rs => noOb rs && dist rs
  | _ :: rs => dist rs
def isOwn : Option R → Bool
  | some (.own _) => true
  | some (.st _) => true
  | some (.obj _) => true
  | _ => false
/-- an object is an object's alone -/
def mend (x : Option R) : Option R → Option R
  | some (.obj o) => match x with
    | some (.obj _) => some (.obj o)
    | _ => none
  | y => y
/-- what the slots hold behind the call -/
def backA (ρ : Rho) (rs : List R) (os : Rho) : Rho := ρ.mapIdx fun j x => if isOwn x = true then match posOf j rs with
    | some k => mend x os[k]?.join
    | none => x
  else x
def callM (sem : Sem) (fa : AM) : EM := fun ρ => bindO (fa ρ) fun rs ρ1 => if dist rs = true then match passA ρ1 rs with
    | some args => match sem args with
      | some (.ok r os) => some (.ok r (backA ρ1 rs os))
      | some (.er c fs os) => some (.er c fs (backA ρ1 rs os))
      | none => none
    | none => none
  else none
end DL
namespace DL
open PySem L2 PyProof.Rows
theorem posOf_some {j : Nat} : ∀ {rs : List R} {k : Nat}, posOf j rs = some k → rs[k]? = some (.slt j)
  | r :: rs, k, h => by
    unfold posOf at h
    split at h
    · rename_i q
      cases h
      cases r with
      | slt i => have e : i = j := by simpa [isSlt] using q
                 subst e; rfl
      | dat d => simp [isSlt] at q
      | own d => simp [isSlt] at q
      | fn d => simp [isSlt] at q
      | st d => simp [isSlt] at q
      | ex c d => simp [isSlt] at q
      | two c d => simp [isSlt] at q
      | obj o => simp [isSlt] at q
      | prt c d => simp [isSlt] at q
    · obtain ⟨k', h1, rfl⟩ := Option.map_eq_some_iff.mp h
      simpa using posOf_some h1
theorem posOf_none {j : Nat} : ∀ {rs : List R} {k : Nat}, posOf j rs = none → rs[k]? ≠ some (.slt j)
  | [], _, _ => by simp
  | r :: rs, 0, h => fun e => by
    have e' : r = .slt j := by simpa using e
    subst e'
    simp [posOf, isSlt] at h
  | r :: rs, k + 1, h => fun e => by
    unfold posOf at h
    split at h
    · cases h
    · have h1 : posOf j rs = none := by simpa using h
      exact posOf_none (k := k) h1 (by simpa using e)
theorem dist_ok : ∀ {rs : List R} {j k k' : Nat}, dist rs = true → rs[k]? = some (.slt j) → rs[k']? = some (.slt j) → k = k'
  | r :: rs, j, 0, 0, _, _, _ => rfl
  | r :: rs, j, 0, k' + 1, h, e, e' => by
    have e1 : r = .slt j := by simpa using e
    subst e1
    simp only [dist, Bool.and_eq_true, Option.isNone_iff_eq_none] at h
    exact absurd (by simpa using e') (posOf_none (k := k') h.1)
  | r :: rs, j, k + 1, 0, h, e, e' => by
    have e1 : r = .slt j := by simpa using e'
    subst e1
    simp only [dist, Bool.and_eq_true, Option.isNone_iff_eq_none] at h
    exact absurd (by simpa using e) (posOf_none (k := k) h.1)
  | r :: rs, j, k + 1, k' + 1, h, e, e' => by
    have h' : dist rs = true := by
      cases r <;> simp only [dist, Bool.and_eq_true] at h <;> first | exact h.2 | exact h
    have a1 : rs[k]? = some (.slt j) := by simpa using e
    have a2 : rs[k']? = some (.slt j) := by simpa using e'
    rw [dist_ok h' a1 a2]
theorem noOb_ok : ∀ {rs : List R} {k : Nat} {o : OD}, noOb rs = true → rs[k]? ≠ some (.obj o)
  | [], k, o, _ => by simp
  | r :: rs, 0, o, h => fun e => by
    have e1 : r = .obj o := by simpa using e
    subst e1
    cases h
  | r :: rs, k + 1, o, h => fun e => by
    have h' : noOb rs = true := by cases r <;> first | exact h | cases h
    exact noOb_ok (k := k) (o := o) h' (by simpa using e)
theorem dist_ob : ∀ {rs : List R} {k k' : Nat} {o o' : OD}, dist rs = true → rs[k]? = some (.obj o) → rs[k']? = some (.obj o') → k = k'
  | [], _, _, _, _, _, e, _ => by simp at e
  | r :: rs, 0, 0, _, _, _, _, _ => rfl
  | r :: rs, 0, k' + 1, o, o', h, e, e' => by
    have e1 : r = .obj o := by simpa using e
    subst e1
    simp only [dist, Bool.and_eq_true] at h
    exact absurd (by simpa using e') (noOb_ok (k := k') (o := o') h.1)
  | r :: rs, k + 1, 0, o, o', h, e, e' => by
    have e1 : r = .obj o' := by simpa using e'
    subst e1
    simp only [dist, Bool.and_eq_true] at h
    exact absurd (by simpa using e) (noOb_ok (k := k) (o := o) h.1)
  | r :: rs, k + 1, k' + 1, o, o', h, e, e' => by
    have h' : dist rs = true := by
      cases r <;> simp only [dist, Bool.and_eq_true] at h <;> first | exact h.2 | exact h
    have a1 : rs[k]? = some (.obj o) := by simpa using e
    have a2 : rs[k']? = some (.obj o') := by simpa using e'
    rw [dist_ob h' a1 a2]
section
variable {T : Tb} {B H : Hp} {FB F : Reg} {OB O : Ows} {σ : L2.St} {ρ : Rho} {L : Nat → List Addr}
/-- the owners among the arguments -/
def Oa (L : Nat → List Addr) (O : Ows) (rs : List R) : Ows := fun k => match rs[k]? with
  | some (.slt i) => O i
  | some (.obj _) => L k
  | _ => []
theorem Oa_some {rs : List R} {k : Nat} {a : Addr} (h : a ∈ Oa L O rs k) : (∃ i, rs[k]? = some (.slt i) ∧ a ∈ O i) ∨ ∃ o, rs[k]? = some (.obj o) ∧ a ∈ L k := by
  unfold Oa at h
  split at h
  · rename_i i q; exact .inl ⟨i, q, h⟩
  · rename_i o q; exact .inr ⟨o, q, h⟩
  · cases h
/-- L: the places of the new objects among the arguments -/
def TmpOk (T : Tb) (B H : Hp) (F : Reg) (O : Ows) (L : Nat → List Addr) (vs : List V) (rs : List R) : Prop :=
  ∀ k v o, vs[k]? = some v → rs[k]? = some (.obj o) → (∀ b, b ∈ L k → B b = none ∧ ¬ F b ∧ ∀ i, b ∉ O i) ∧ ObjAt T H F (L k) v o
theorem resRs_get : ∀ {vs : List V} {rs : List R} {k : Nat} {r : R}, ResRs T B H F O σ vs rs → rs[k]? = some r → ∃ v, vs[k]? = some v ∧ ResR T B H F O σ v r
  | _, _, _, _, .nil, e => by simp at e
  | _, _, 0, _, .cons a _, e => by simp at e; subst e; exact ⟨_, rfl, a⟩
  | _, _, k + 1, r, .cons _ b, e => by
    obtain ⟨v, h1, h2⟩ := resRs_get (k := k) (r := r) b (by simpa using e)
    exact ⟨v, by simpa using h1, h2⟩
theorem resRs_len : ∀ {vs : List V} {rs : List R}, ResRs T B H F O σ vs rs → vs.length = rs.length
  | _, _, .nil => rfl
  | _, _, .cons _ b => by rw [List.length_cons, List.length_cons, resRs_len b]
theorem tmps {vs : List V} {rs : List R} (r : ResRs T B H F O σ vs rs) : ∃ L, TmpOk T B H F O L vs rs := by
  have key : ∀ k : Nat, ∃ Lk : List Addr, ∀ (v : V) (o : OD), vs[k]? = some v → rs[k]? = some (R.obj o) → (∀ b, b ∈ Lk → B b = none ∧ ¬ F b ∧ ∀ i, b ∉ O i) ∧ ObjAt T H F Lk v o := fun k => by
    cases hk : rs[k]? with
    | none => exact ⟨[], fun _ _ _ e => by cases e⟩
    | some r0 =>
      cases r0 with
      | obj o =>
        obtain ⟨v, hv, Lk, h1, h2⟩ := resRs_get r hk
        exact ⟨Lk, fun v' o' e1 e2 => by rw [hv] at e1; cases e1; cases e2; exact ⟨h1, h2⟩⟩
      | _ => exact ⟨[], fun _ _ _ e => by cases e⟩
  exact ⟨fun k => Classical.choose (key k), fun k => Classical.choose_spec (key k)⟩
theorem passA_get : ∀ {rs args : List R} {k : Nat} {a : R}, passA ρ rs = some args → args[k]? = some a → ∃ r, rs[k]? = some r ∧ pass1 ρ r = some a
  | [], args, k, a, h, e => by cases h; simp at e
  | r :: rs, args, k, a, h, e => by
    unfold passA at h
    cases q1 : pass1 ρ r with
    | none => rw [q1] at h; cases h
    | some b =>
      cases q2 : passA ρ rs with
      | none => rw [q1, q2] at h; cases h
      | some bs =>
        rw [q1, q2] at h
        cases h
        cases k with
        | zero => simp at e; subst e; exact ⟨r, rfl, q1⟩
        | succ k =>
          obtain ⟨r', h1, h2⟩ := passA_get (k := k) (a := a) q2 (by simpa using e)
          exact ⟨r', by simpa using h1, h2⟩
theorem passA_len : ∀ {rs args : List R}, passA ρ rs = some args → args.length = rs.length
  | [], args, h => by cases h; rfl
  | r :: rs, args, h => by
    unfold passA at h
    cases q1 : pass1 ρ r with
    | none => rw [q1] at h; cases h
    | some b =>
      cases q2 : passA ρ rs with
      | none => rw [q1, q2] at h; cases h
      | some bs =>
        rw [q1, q2] at h
        cases h
        rw [List.length_cons, List.length_cons, passA_len q2]
theorem passA_there : ∀ {rs args : List R} {k : Nat} {r : R}, passA ρ rs = some args → rs[k]? = some r → ∃ a, args[k]? = some a := fun {rs args k r} h e => by
  have hk := lt_of_at e
  rw [← passA_len h] at hk
  exact ⟨args[k], by simp [hk]⟩
/-- the arguments, as a def takes them -/
theorem env_args (E : EnvR T H F O σ ρ) {vs : List V} {rs args : List R} (hd : dist rs = true) (r : ResRs T B H F O σ vs rs) (tm : TmpOk T B H F O L vs rs) (p : passA ρ rs = some args) : EnvR T H F (Oa L O rs) (vs.map some) (args.map some) := by
  have thr : ∀ (k : Nat) (o : OD), rs[k]? = some (R.obj o) → ∃ v, vs[k]? = some v := fun k o h => let ⟨v, hv, _⟩ := resRs_get r h; ⟨v, hv⟩
  refine ⟨by rw [List.length_map, List.length_map, passA_len p, resRs_len r], fun k a e => ?_, fun k a e => ?_, fun k k' a e1 e2 => ?_, fun k a e => ?_, E.lv, E.tb⟩
  · have e' : args[k]? = some a := by
      rw [List.getElem?_map] at e
      cases q : args[k]? with
      | none => rw [q] at e; cases e
      | some b => rw [q] at e; cases e; rfl
    obtain ⟨s, h1, h2⟩ := passA_get p e'
    obtain ⟨v, h3, h4⟩ := resRs_get r h1
    refine ⟨v, by rw [List.getElem?_map, h3]; rfl, ?_⟩
    cases s with
    | dat d =>
      cases h2
      exact ⟨by unfold Oa; rw [h1], h4⟩
    | fn d =>
      cases h2
      exact ⟨by unfold Oa; rw [h1], h4⟩
    | own d => cases h2
    | st d => cases h2
    | ex c d =>
      cases h2
      exact ⟨by unfold Oa; rw [h1], h4⟩
    | two c d => cases h2
    | obj o =>
      have h2' : (if okO o = true then some (R.obj o) else none) = some a := h2
      split at h2'
      all_goals cases h2'
      have := (tm k v o h3 h1).2
      show ObjAt T H F (Oa L O rs k) v o
      rw [show Oa L O rs k = L k by unfold Oa; rw [h1]]
      exact this
    | prt c d => cases h2
    | slt i =>
      have hO : Oa L O rs k = O i := by unfold Oa; rw [h1]
      rw [hO]
      have h2' := h2
      unfold pass1 at h2'
      dsimp only at h2'
      split at h2'
      all_goals first
        | (rename_i q
           cases h2'
           obtain ⟨u, hu, su⟩ := E.at_ i _ q
           have h4' : σ[i]? = some (some v) := h4
           rw [h4'] at hu
           cases hu
           exact su)
        | (rename_i q
           split at h2' <;> cases h2'
           obtain ⟨u, hu, su⟩ := E.at_ i _ q
           have h4' : σ[i]? = some (some v) := h4
           rw [h4'] at hu
           cases hu
           exact su)
        | cases h2'
  · rcases Oa_some e with ⟨i, h1, h2⟩ | ⟨o, h1, h2⟩
    · obtain ⟨b, h3⟩ := passA_there p h1
      exact ⟨b, by rw [List.getElem?_map, h3]; rfl⟩
    · obtain ⟨b, h3⟩ := passA_there p h1
      exact ⟨b, by rw [List.getElem?_map, h3]; rfl⟩
  · rcases Oa_some e1 with ⟨i, h1, h2⟩ | ⟨o, h1, h2⟩
    · rcases Oa_some e2 with ⟨j, h3, h4⟩ | ⟨o, h3, h4⟩
      · have := E.inj i j a h2 h4
        subst this
        exact dist_ok hd h1 h3
      · obtain ⟨v, hv⟩ := thr k' o h3
        exact absurd h2 (((tm k' v o hv h3).1 a h4).2.2 i)
    · rcases Oa_some e2 with ⟨j, h3, h4⟩ | ⟨o', h3, h4⟩
      · obtain ⟨v, hv⟩ := thr k o h1
        exact absurd h4 (((tm k v o hv h1).1 a h2).2.2 j)
      · exact dist_ob hd h1 h3
  · rcases Oa_some e with ⟨i, h1, h2⟩ | ⟨o, h1, h2⟩
    · exact E.nf i a h2
    · obtain ⟨v, hv⟩ := thr k o h1
      exact ((tm k v o hv h1).1 a h2).2.1
/-- what a slot alone holds: its place -/
theorem own_is (E : EnvR T H F O σ ρ) {j : Nat} {a : Addr} (h : a ∈ O j) : ∃ x, ρ[j]? = some x ∧ isOwn x = true := by
  obtain ⟨r, e⟩ := E.own j a h
  obtain ⟨v, h1, s⟩ := E.at_ j r e
  refine ⟨some r, e, ?_⟩
  cases r with
  | own d => rfl
  | st d => rfl
  | obj d => rfl
  | dat d => obtain ⟨z, _⟩ := s; rw [z] at h; cases h
  | slt i => exact s.elim
  | fn d => obtain ⟨z, _⟩ := s; rw [z] at h; cases h
  | ex c d => obtain ⟨z, _⟩ := s; rw [z] at h; cases h
  | two c d => exact s.elim
  | prt c d => exact s.elim
/-- the places of what one slot alone holds are told by its value -/
theorem LedAt.same {L L' : List Addr} {H' : Hp} {F' : Reg} {v : V} {ts ss ts' ss' : List PyData} (k : Kept F H H') (h : LedAt T H F L v ts ss) (h' : LedAt T H' F' L' v ts' ss') : L' = L := by
  obtain ⟨a, dx, t, s, rfl, rfl, _, e1, _⟩ := h
  obtain ⟨a', dx', t', s', z, rfl, _, e1', _⟩ := h'
  cases z
  have e2 := k _ _ e1 (.inr trivial)
  rw [e2] at e1'
  unfold ledF at e1'
  cases e1'
  rfl
theorem DskAt.same {L L' : List Addr} {H' : Hp} {F' : Reg} {v : V} {ts ss ts' ss' : List PyData} (k : Kept F H H') (h : DskAt T H F L v ts ss) (h' : DskAt T H' F' L' v ts' ss') : L' = L := by
  obtain ⟨b, dx, a, h1, h2, h3⟩ := h
  obtain ⟨b', dx', a', g1, g2, g3⟩ := h'
  rw [h1] at g1
  cases g1
  have e2 := k _ _ h2 (.inr trivial)
  rw [e2] at g2
  cases g2
  exact h3.same k g3
theorem no_both {L L' : List Addr} {H' : Hp} {F' : Reg} {v : V} {ts ss ts' ss' : List PyData} (k : Kept F H H') (h : LedAt T H F L v ts ss) (h' : DskAt T H' F' L' v ts' ss') : False := by
  obtain ⟨a, dx, t, s, rfl, _, _, e1, _⟩ := h
  obtain ⟨b', dx', a', g1, g2, g3⟩ := h'
  cases g1
  have e2 := k _ _ e1 (.inr trivial)
  rw [e2] at g2
  have z := congrArg List.length (HO.ins.inj (Option.some.inj g2)).2.2
  simp [ledF] at z
theorem no_both' {L L' : List Addr} {H' : Hp} {F' : Reg} {v : V} {ts ss ts' ss' : List PyData} (k : Kept F H H') (h : DskAt T H F L v ts ss) (h' : LedAt T H' F' L' v ts' ss') : False := by
  obtain ⟨b', dx', a', g1, g2, g3⟩ := h
  obtain ⟨a, dx, t, s, e0, _, _, e1, _⟩ := h'
  rw [g1] at e0
  cases e0
  have e2 := k _ _ g2 (.inr trivial)
  rw [e2] at e1
  have z := congrArg List.length (HO.ins.inj (Option.some.inj e1)).2.2
  simp [ledF] at z
theorem OneAt.same {b b' : Bool} {L L' : List Addr} {H' : Hp} {F' : Reg} {v : V} {ts ss ts' ss' : List PyData} (k : Kept F H H') (h : OneAt T H F b L v ts ss) (h' : OneAt T H' F' b' L' v ts' ss') : L' = L := by
  unfold OneAt at h h'
  split at h <;> split at h'
  · exact h.same k h'
  · exact (no_both k h h').elim
  · exact (no_both' k h h').elim
  · exact DskAt.same k h h'
theorem ManyAt.same {b b' : Bool} {H' : Hp} {F' : Reg} (k : Kept F H H') : ∀ {Ls Ls' : List (List Addr)} {vs : List V} {xs xs' : List (Option (List PyData × List PyData))}, ManyAt T H F b Ls vs xs → xs.all Option.isSome = true → ManyAt T H' F' b' Ls' vs xs' → ∀ a, a ∈ Ls'.flatten → a ∈ Ls.flatten
  | _, _, _, _, _, .nil, _, .nil, a, ha => ha
  | _, _, _, _, _, .hole q, h, _, a, ha => by simp at h
  | _, _, _, _, _, .cons q r, h, .hole r', a, ha => by
    rw [List.flatten_cons, List.mem_append]
    exact .inr (ManyAt.same k r (by simpa using h) r' a (by simpa using ha))
  | _, _, _, _, _, .cons q r, h, .cons q' r', a, ha => by
    rw [List.flatten_cons, List.mem_append] at ha ⊢
    rcases ha with ha | ha
    · rw [q.same k q'] at ha; exact .inl ha
    · exact .inr (ManyAt.same k r (by simpa using h) r' a ha)
/-- what stands at an object's place -/
theorem obj_ho {L : List Addr} {v : V} : ∀ {o : OD}, ObjAt T H F L v o → ∃ p u, v = .ref p ∧ H p = some u ∧ ((∃ C dx fs, u = .ins C dx fs) ∨ (∃ xs, u = .tup xs) ∨ F p)
  | .led _ _, ⟨a, dx, t, s, h1, _, _, h2, _⟩ => ⟨a, _, h1, h2, .inl ⟨_, _, _, rfl⟩⟩
  | .dsk _ _, ⟨b, dx, a, h1, h2, _⟩ => ⟨b, _, h1, h2, .inl ⟨_, _, _, rfl⟩⟩
  | .pr _ _ _, ⟨p, a, l, L0, h1, h2, _⟩ => ⟨p, _, h1, h2, .inr (.inl ⟨_, rfl⟩)⟩
  | .many _ _, ⟨p, vs, Ls, h1, h2, h3, _⟩ => ⟨p, _, h1, h3, .inr (.inr h2)⟩
theorem obj_same {L L' : List Addr} {H' : Hp} {F' : Reg} {v : V} (k : Kept F H H') : ∀ {o o' : OD}, okO o = true → ObjAt T H F L v o → ObjAt T H' F' L' v o' → ∀ a, a ∈ L' → a ∈ L
  | .led _ _, .led _ _, _, h, h', a, ha => by rw [LedAt.same k h h'] at ha; exact ha
  | .dsk _ _, .dsk _ _, _, h, h', a, ha => by rw [DskAt.same k h h'] at ha; exact ha
  | .led _ _, .dsk _ _, _, h, h', _, _ => (no_both k h h').elim
  | .dsk _ _, .led _ _, _, h, h', _, _ => (no_both' k h h').elim
  | .many _ _, .many _ _, ok, ⟨p, vs, Ls, h1, h2, h3, h4, _, h5⟩, ⟨p', vs', Ls', g1, g2, g3, g4, _, g5⟩, a, ha => by
    rw [h1] at g1
    cases g1
    have e2 := k _ _ h3 (.inl ⟨h2, trivial⟩)
    rw [e2] at g3
    cases g3
    rw [g4] at ha
    rw [h4]
    exact ManyAt.same k h5 ok g5 a ha
  | .led _ _, .pr _ _ _, _, ⟨a, dx, t, s, h1, _, _, h2, _⟩, ⟨p', a', l', L0', g1, g2, _⟩, _, _ => by
    rw [h1] at g1
    cases g1
    rw [k _ _ h2 (.inr trivial)] at g2; cases g2
  | .dsk _ _, .pr _ _ _, _, ⟨b, dx, a, h1, h2, _⟩, ⟨p', a', l', L0', g1, g2, _⟩, _, _ => by
    rw [h1] at g1
    cases g1
    rw [k _ _ h2 (.inr trivial)] at g2; cases g2
  | .many _ _, .pr _ _ _, _, ⟨p, vs, Ls, h1, h2, h3, _⟩, ⟨p', a', l', L0', g1, g2, _⟩, _, _ => by
    rw [h1] at g1
    cases g1
    rw [k _ _ h3 (.inl ⟨h2, trivial⟩)] at g2; cases g2
  | .led _ _, .many _ _, _, ⟨a, dx, t, s, h1, _, _, h2, _⟩, ⟨p', vs', Ls', g1, _, g2, _⟩, _, _ => by
    rw [h1] at g1
    cases g1
    rw [k _ _ h2 (.inr trivial)] at g2; cases g2
  | .dsk _ _, .many _ _, _, ⟨b, dx, a, h1, h2, _⟩, ⟨p', vs', Ls', g1, _, g2, _⟩, _, _ => by
    rw [h1] at g1
    cases g1
    rw [k _ _ h2 (.inr trivial)] at g2; cases g2
  | .many _ _, .led _ _, _, ⟨p, vs, Ls, h1, h2, h3, _⟩, ⟨a, dx, t, s, g1, _, _, g2, _⟩, _, _ => by
    rw [h1] at g1
    cases g1
    rw [k _ _ h3 (.inl ⟨h2, trivial⟩)] at g2; cases g2
  | .many _ _, .dsk _ _, _, ⟨p, vs, Ls, h1, h2, h3, _⟩, ⟨b, dx, a, g1, g2, _⟩, _, _ => by
    rw [h1] at g1
    cases g1
    rw [k _ _ h3 (.inl ⟨h2, trivial⟩)] at g2; cases g2
theorem slot_same {L L' : List Addr} {H' : Hp} {F' : Reg} {v : V} (k : Kept F H H') (nf : ∀ b, b ∈ L' → ¬ F b) : ∀ {r r' : R}, isOwn (some r) = true → (∀ o, r = .obj o → okO o = true) → mend (some r) (some r') = some r' → SlotR T H F L v r → SlotR T H' F' L' v r' → ∀ a, a ∈ L' → a ∈ L
  | .own _, .own _, _, _, _, ⟨b, z, w, _⟩, ⟨c, y, u, _⟩, _, ha => by rw [y] at ha; rw [z]; rw [w] at u; cases u; exact ha
  | .own _, .st _, _, _, _, ⟨b, z, w, _⟩, ⟨c, y, u, _⟩, _, ha => by rw [y] at ha; rw [z]; rw [w] at u; cases u; exact ha
  | .st _, .own _, _, _, _, ⟨b, z, w, _⟩, ⟨c, y, u, _⟩, _, ha => by rw [y] at ha; rw [z]; rw [w] at u; cases u; exact ha
  | .st _, .st _, _, _, _, ⟨b, z, w, _⟩, ⟨c, y, u, _⟩, _, ha => by rw [y] at ha; rw [z]; rw [w] at u; cases u; exact ha
  | .obj o, .obj o', _, ok, _, h, h', a, ha => obj_same k (ok o rfl) h h' a ha
  | .obj o, .own d, _, _, _, h, ⟨c, y, u, q⟩, _, ha => by
    exfalso
    obtain ⟨p, w, h1, h2, h3⟩ := obj_ho h
    rw [h1] at u
    cases u
    obtain ⟨o', ho, n⟩ := q.there
    rcases h3 with ⟨C, dx, fs, rfl⟩ | ⟨xs, rfl⟩ | h3
    · rw [k _ _ h2 (.inr trivial)] at ho; cases ho; exact n trivial
    · rw [k _ _ h2 (.inr trivial)] at ho; cases ho; exact n trivial
    · exact nf _ (by rw [y]; exact List.mem_singleton.mpr rfl) h3
  | .obj o, .st d, _, _, _, h, ⟨c, y, u, q⟩, _, ha => by
    exfalso
    obtain ⟨p, w, h1, h2, h3⟩ := obj_ho h
    rw [h1] at u
    cases u
    obtain ⟨o', ho, n⟩ := q.there
    rcases h3 with ⟨C, dx, fs, rfl⟩ | ⟨xs, rfl⟩ | h3
    · rw [k _ _ h2 (.inr trivial)] at ho; cases ho; exact n trivial
    · rw [k _ _ h2 (.inr trivial)] at ho; cases ho; exact n trivial
    · exact nf _ (by rw [y]; exact List.mem_singleton.mpr rfl) h3
  | _, .dat _, _, _, _, _, ⟨z, _⟩, a, ha => by rw [z] at ha; cases ha
  | _, .fn _, _, _, _, _, ⟨z, _⟩, a, ha => by rw [z] at ha; cases ha
  | _, .ex _ _, _, _, _, _, ⟨z, _⟩, a, ha => by rw [z] at ha; cases ha
/-- behind the call -/
theorem env_back (E : EnvR T H F O σ ρ) {vs : List V} {rs : List R} {args : List R} (hd : dist rs = true) (r : ResRs T B H F O σ vs rs) (tm : TmpOk T B H F O L vs rs) (p : passA ρ rs = some args) {H' : Hp} {F' : Reg} {O' : Ows} {os : Rho} (yB : Ext false B FB OB H F O) (x : Ext true H F (Oa L O rs) H' F' O') (E' : EnvR T H' F' O' (vs.map some) os) :
    ∃ O2, Ext false B FB OB H' F' O2 ∧ EnvR T H' F' O2 σ (backA ρ rs os) ∧ ∀ i a, a ∈ O2 i → a ∈ O i := by
  have Ea := env_args E hd r tm p
  have thr : ∀ (k : Nat) (o : OD), rs[k]? = some (R.obj o) → ∃ v, vs[k]? = some v := fun k o h => let ⟨v, hv, _⟩ := resRs_get r h; ⟨v, hv⟩
  have tmB : ∀ (k : Nat) (o : OD) (a : Addr), rs[k]? = some (R.obj o) → a ∈ L k → B a = none ∧ ∀ i, a ∉ O i := fun k o a h h2 => by
    obtain ⟨v, hv⟩ := thr k o h
    have := (tm k v o hv h).1 a h2
    exact ⟨this.1, this.2.2⟩
  -- an owner behind the call is the same as ahead of it
  have kp : Kept F H H' := Ea.kept x
  have same : ∀ k j a, rs[k]? = some (.slt j) → a ∈ O' k → ∀ y, ρ[j]? = some y → isOwn y = true → (mend y os[k]?.join).isSome = true → a ∈ O j := fun k j a h1 h2 y hy ho hm => by
    obtain ⟨q, e3⟩ := E'.own k a h2
    obtain ⟨v, e4, s⟩ := E'.at_ k q e3
    obtain ⟨u, e5, e6⟩ := resRs_get r h1
    have e6' : σ[j]? = some (some u) := e6
    rw [List.getElem?_map, e5] at e4
    cases e4
    cases y with
    | none => cases ho
    | some p =>
      obtain ⟨w, g1, g2⟩ := E.at_ j p hy
      rw [e6'] at g1
      cases g1
      refine slot_same kp (fun b hb z => E'.nf k b hb (x.grow b z)) ho (fun o e => ?_) ?_ g2 s a h2
      · subst e
        obtain ⟨ar, har⟩ := passA_there p h1
        obtain ⟨r1, q1, q2⟩ := passA_get p har
        rw [h1] at q1
        cases q1
        have q3 : (match ρ[j]? with
          | some (some (.own d)) => some (R.own d)
          | some (some (.dat d)) => some (.dat d)
          | some (some (.st xs)) => some (.st xs)
          | some (some (.obj o)) => if okO o = true then some (.obj o) else none
          | _ => none) = some ar := q2
        rw [hy] at q3
        dsimp only at q3
        split at q3
        · assumption
        · cases q3
      · rw [e3] at hm
        cases q with
        | obj o =>
          cases p with
          | obj o' => rfl
          | _ => cases hm
        | _ => rfl
  let O2 : Ows := fun j => match ρ[j]? with
    | some y => if isOwn y = true then match posOf j rs with
        | some k => if (mend y os[k]?.join).isSome = true then O' k else []
        | none => O j
      else []
    | none => []
  have cases2 : ∀ j a, a ∈ O2 j → (∃ y, ρ[j]? = some y ∧ isOwn y = true ∧ ((∃ k, posOf j rs = some k ∧ (mend y os[k]?.join).isSome = true ∧ a ∈ O' k) ∨ (posOf j rs = none ∧ a ∈ O j))) := fun j a h => by
    have h' : a ∈ (match ρ[j]? with
      | some y => if isOwn y = true then match posOf j rs with
          | some k => if (mend y os[k]?.join).isSome = true then O' k else []
          | none => O j
        else []
      | none => []) := h
    cases q : ρ[j]? with
    | none => rw [q] at h'; cases h'
    | some y =>
      rw [q] at h'
      dsimp only at h'
      split at h'
      · rename_i ho
        refine ⟨y, rfl, ho, ?_⟩
        cases q2 : posOf j rs with
        | none => rw [q2] at h'; exact .inr ⟨rfl, h'⟩
        | some k =>
          rw [q2] at h'
          dsimp only at h'
          split at h'
          · rename_i hm; exact .inl ⟨k, rfl, hm, h'⟩
          · cases h'
      · cases h'
  have sub : ∀ j a, a ∈ O2 j → a ∈ O j := fun j a h => by
    obtain ⟨y, hy, ho, ⟨k, h1, hm, h2⟩ | ⟨_, h2⟩⟩ := cases2 j a h
    · exact same k j a (posOf_some h1) h2 y hy ho hm
    · exact h2
  have keepO : ∀ j a o, posOf j rs = none → a ∈ O j → H a = some o → H' a = some o := fun j a o h1 h2 h3 => x.keep a o h3 (fun k e => by
    rcases Oa_some e with ⟨i, e1, e2⟩ | ⟨o', e1, e2⟩
    · have := E.inj i j a e2 h2
      subst this
      exact posOf_none h1 e1
    · exact (tmB k o' a e1 e2).2 j h2) (E.nc h2 h3).1
  refine ⟨O2, ⟨fun b o h n z => x.keep b o (yB.keep b o h n z) (fun k e => ?_) z, fun b h => yB.live b (x.live b h), fun b h => x.grow b (yB.grow b h), fun b h => ?_, fun j b h => yB.own j b (sub j b h)⟩, ⟨?_, fun j q e => ?_, fun j a h => ?_, fun i j a e1 e2 => E.inj i j a (sub i a e1) (sub j a e2), fun j a h => ?_, E'.lv, E'.tb⟩, sub⟩
  · rcases Oa_some e with ⟨i, _, e2⟩ | ⟨o', e1, e2⟩
    · exact (yB.own i b e2).elim (n i) fun z => absurd z.1 Bool.false_ne_true
    · rw [(tmB k o' b e1 e2).1] at h; cases h
  · rcases x.new b h with z | ⟨k, z⟩ | z
    · exact yB.new b z
    · rcases Oa_some z with ⟨i, _, e2⟩ | ⟨o', e1, e2⟩
      · exact (yB.ow e2).elim (fun q => .inr (.inl q)) fun q => .inr (.inr q)
      · exact .inr (.inr (tmB k o' b e1 e2).1)
    · exact .inr (.inr (yB.live b z))
  · unfold backA
    rw [List.length_mapIdx]
    exact E.len
  · unfold backA at e
    rw [List.getElem?_mapIdx] at e
    cases qj : ρ[j]? with
    | none => rw [qj] at e; cases e
    | some y =>
      rw [qj] at e
      have e' : (if isOwn y = true then match posOf j rs with
          | some k => mend y os[k]?.join
          | none => y
        else y) = some q := Option.some.inj e
      have O2j : O2 j = if isOwn y = true then match posOf j rs with
          | some k => if (mend y os[k]?.join).isSome = true then O' k else []
          | none => O j
        else [] := by show (match ρ[j]? with
          | some y => if isOwn y = true then match posOf j rs with
              | some k => if (mend y os[k]?.join).isSome = true then O' k else []
              | none => O j
            else []
          | none => []) = _
                      rw [qj]
      rw [O2j]
      by_cases ho : isOwn y = true
      · rw [if_pos ho] at e' ⊢
        cases qp : posOf j rs with
        | none =>
          rw [qp] at e'
          dsimp only at e' ⊢
          subst e'
          obtain ⟨v, h1, s⟩ := E.at_ j q qj
          exact ⟨v, h1, s.mono kp x.grow fun a o ha hh => keepO j a o qp ha hh⟩
        | some k =>
          rw [qp] at e'
          dsimp only at e' ⊢
          rw [e', if_pos (show (some q).isSome = true from rfl)]
          have e2 : os[k]? = some (some q) := by
            cases z : os[k]? with
            | none => rw [z] at e'; cases e'
            | some w =>
              rw [z] at e'
              cases w with
              | none => cases e'
              | some w =>
                cases w with
                | obj o =>
                  cases y with
                  | none => cases e'
                  | some y =>
                    cases y with
                    | obj o' => cases e'; rfl
                    | _ => cases e'
                | _ => cases e'; rfl
          obtain ⟨v, h1, s⟩ := E'.at_ k q e2
          obtain ⟨u, e5, e6⟩ := resRs_get r (posOf_some qp)
          rw [List.getElem?_map, e5] at h1
          obtain rfl : u = v := by simpa using h1
          exact ⟨u, e6, s⟩
      · rw [if_neg ho] at e' ⊢
        subst e'
        obtain ⟨v, h1, s⟩ := E.at_ j q qj
        have hn : O j = [] := by
          cases z : O j with
          | nil => rfl
          | cons a l =>
            obtain ⟨y, hy, ho'⟩ := own_is E (j := j) (a := a) (by rw [z]; exact List.mem_cons_self)
            rw [qj] at hy
            cases hy
            exact absurd ho' ho
        rw [hn] at s
        exact ⟨v, h1, s.mono kp x.grow fun a o ha _ => by cases ha⟩
  · obtain ⟨y, hy, ho, z⟩ := cases2 j a h
    unfold backA
    rw [List.getElem?_mapIdx, hy]
    show ∃ q, some (if isOwn y = true then match posOf j rs with
          | some k => mend y os[k]?.join
          | none => y
        else y) = some (some q)
    rw [if_pos ho]
    rcases z with ⟨k, h1, hm, h2⟩ | ⟨h1, h2⟩
    · rw [h1]
      dsimp only
      cases z : mend y os[k]?.join with
      | none => rw [z] at hm; cases hm
      | some w => exact ⟨w, rfl⟩
    · rw [h1]
      obtain ⟨q, e⟩ := E.own j a h2
      rw [hy] at e
      cases e
      exact ⟨q, rfl⟩
  · obtain ⟨y, hy, ho, ⟨k, h1, hm, h2⟩ | ⟨h1, h2⟩⟩ := cases2 j a h
    · exact E'.nf k a h2
    · intro z
      rcases x.new a z with z | ⟨k, z⟩ | z
      · exact E.nf j a h2 z
      · rcases Oa_some z with ⟨i, e1, e2⟩ | ⟨o', e1, e2⟩
        · have := E.inj i j a e2 h2
          subst this
          exact posOf_none h1 e1
        · exact (tmB k o' a e1 e2).2 j h2
      · obtain ⟨o, ho, _⟩ := E.there h2
        rw [ho] at z; cases z
/-- a callee's result is ours -/
theorem res_back (E : EnvR T H F O σ ρ) {H' : Hp} {F' : Reg} {O' O2 : Ows} {v : V} (sb : ∀ i a, a ∈ O2 i → a ∈ O i) : ∀ {r : R}, ResR T H H' F' O' [] v r → ResR T H H' F' O2 σ v r
  | .dat _, h => h
  | .own _, ⟨a, h1, h2, h3, _, h5⟩ => ⟨a, h1, h2, h3, fun i e => E.ne_new h2 i (sb i a e), h5⟩
  | .slt i, h => by
    have h' : ([] : L2.St)[i]? = some (some v) := h
    simp at h'
  | .fn _, h => h
  | .st _, ⟨a, h1, h2, h3, _, h5⟩ => ⟨a, h1, h2, h3, fun i e => E.ne_new h2 i (sb i a e), h5⟩
  | .ex _ _, h => h
  | .two _ _, ⟨p, a, b, h1, h2, h3, ⟨a1, a2, _, a4⟩, b1, b2, _, b4⟩ => ⟨p, a, b, h1, h2, h3, ⟨a1, a2, fun i e => E.ne_new a1 i (sb i a e), a4⟩, b1, b2, fun i e => E.ne_new b1 i (sb i b e), b4⟩
  | .obj _, ⟨L, h1, h2⟩ => ⟨L, fun b hb => ⟨(h1 b hb).1, (h1 b hb).2.1, fun i e => E.ne_new (h1 b hb).1 i (sb i b e)⟩, h2⟩
  | .prt _ _, ⟨_, _, _, _, h, _⟩ => by simp at h
end
/-- a def of the text: its name, its place, its promise -/
structure FnE (P : Program) (w : World) (mg : Str → Option Value) (base : Heap) (T : Tb) (x : Str) (k n : Nat) (sem : Sem) : Prop where
  ex : ∃ f fd ps, mg x = some (.ref f) ∧ PySem.W.keepIn T.K (.ref f) = true ∧ Binds T.K fd ps [] ∧ ps.length = n ∧ FnG P w T.K mg base k f fd ps (spOf T n sem)
section
variable {X : Cx} {T : Tb} {W : WX} {x : Str} {k n m : Nat} {sem : Sem} {e : Expr} {es : List Expr} {fa : AM} {p pos : Pos}
theorem call_of {σ : L2.St} {H : Hp} {Q : VK} (h : Tof T W (tlE T) (callM sem fa) σ H Q) (hl : ∀ vs rs H0 H1 F1 O1, ResRs T H0 H1 F1 O1 σ vs rs → ∀ args ρ, passA ρ rs = some args → ∀ o, sem args = some o → vs.length = n) :
    Tof T W (tlA T) fa σ H fun vs H1 => spOf T n sem vs H1 Q fun cls d H' => W cls d σ H' := by
  obtain ⟨ρ, F, O, E, P⟩ := h
  refine stp .refl E P fun vs H1 rs ρ1 F1 O1 x1 y1 E1 r1 P1 => ?_
  split at P1
  · rename_i hd
    cases q : passA ρ1 rs with
    | none => rw [q] at P1; exact P1.elim
    | some args =>
      rw [q] at P1
      dsimp only at P1
      cases q2 : sem args with
      | none => rw [q2] at P1; exact P1.elim
      | some o =>
        rw [q2] at P1
        obtain ⟨L, tm⟩ := tmps r1
        refine ⟨args, F1, Oa L O1 rs, hl vs rs _ _ _ _ r1 args ρ1 q o q2, env_args E1 hd r1 tm q, ?_⟩
        rw [q2]
        cases o with
        | ok r os =>
          intro v H2 F2 O2 x2 E2 r2
          obtain ⟨O3, x3, E3, sb⟩ := env_back E1 hd r1 tm q y1 x2 E2
          exact P1 v H2 F2 O3 x3 E3 ((res_back E1 sb r2).back x1.live)
        | er c fs os =>
          intro cls d H2 F2 O2 x2 E2 r2
          obtain ⟨O3, x3, E3, sb⟩ := env_back E1 hd r1 tm q y1 x2 E2
          exact P1 cls d H2 F2 O3 x3 E3 r2
  · exact P1.elim
/-- f(e, ..) -/
theorem se_call (h : FnE X.prog X.w X.mg X.base T x k n sem) (c : Cxt X T W m) (hk : k ≤ m) (hg : L2.Gl X x) (ha : SA X T W (e :: es) fa) (hl : ∀ args o, sem args = some o → args.length = n) (hdb : (x == ("__debug__" : Str)) = false := by decide)
    (he : starEach (e :: es) X.env = (false, eval e X.env) :: starEach es X.env := by rfl) (hpl : (backTo pos (starEach es X.env)).any (·.1) = false := by rfl) : SE X T W (.Call (.Name x p) (e :: es) [] pos) (callM sem fa) := by
  obtain ⟨f, fd, ps, hm, hkp, hb, hn, G⟩ := h.ex
  rw [← c.hK] at hkp hb G
  refine ⟨fun pins s σ H Q I h => ?_⟩
  have h2 := call_of (n := n) h fun vs rs H0 H1 F1 O1 rr args ρ pa o so => by rw [resRs_len rr, ← passA_len pa]; exact hl args o so
  have fin : ∀ us s1, AP X pins σ (fun vs H1 => spOf T n sem vs H1 Q fun cls d H' => W cls d σ H') us s1 → X.K.In s1.heap ∧ wpAny (model X.prog X.w) X.A (call (.ref f) us) (EP X pins σ Q) X.xe s1 := by
    rintro us s1 ⟨vs, H1, I1, r, q⟩
    refine ⟨I1.kIn, ?_⟩
    have lus : us.length = ps.length := by rw [← r.length]; exact G.len _ _ _ _ q
    have bb := hb s1 us I1.kIn (by rw [List.append_nil]; exact lus)
    rw [List.append_nil] at bb
    refine wpAny_call (codeAny_mono (G.run X.A X.stack s1 H1 ⟨us, []⟩ us vs Q _ c.gd (c.room.mono hk) I1.env0 bb r q) ?_)
    intro r' s' hq
    cases r' with
    | error e => exact c.tk e s' (XE.of_call I1 (fun _ _ _ z => z) hq)
    | ok fl =>
      cases fl with
      | ret u => exact I1.after hq
      | next => exact hq.elim
      | brk => exact hq.elim
      | cont => exact hq.elim
  exact wpAny_Call_Name_kw (ld_glob I hg hm (PySem.W.callWith_K (h₀ := X.base) I.ok.mod.kin hkp (thn (ha.run pos pins s σ H _ I h2) fin) he hpl) hdb)
end
theorem runD_len {n N : Nat} {pr : Nat → Bool} {m : SM} : ∀ args o, runD n N pr m args = some o → args.length = n := fun args o h => by
  unfold runD at h
  split at h
  · assumption
  · cases h
end DL
namespace DL
open PySem L2 PyProof.Rows
section
variable {T : Tb} {H : Hp} {F : Reg} {O : Ows} {σ : L2.St} {ρ : Rho}
/-- what a slot alone holds changes -/
theorem EnvR.mut {i : Nat} {a : Addr} {d d' : PyData} {o : HO} {s : Bool} (E : EnvR T H F O σ ρ) (h : ρ[i]? = some (some (.own d))) (hO : O i = [a]) (new : Kept F H (upd H a o) → OwnAt T.K (upd H a o) F a d') :
    EnvR T (upd H a o) F O σ (ρ.set i (some (.own d'))) ∧ Ext s H F O (upd H a o) F O ∧ Kept F H (upd H a o) := by
  have ho : a ∈ O i := by rw [hO]; exact List.mem_singleton.mpr rfl
  have x : Ext s H F O (upd H a o) F O := ⟨fun b u hb n _ => by rw [upd_ne (show b ≠ a from fun z => n i (by rw [z]; exact ho))]; exact hb, fun b hb => by
    by_cases e : b = a
    · subst e; rw [upd_same] at hb; cases hb
    · rw [upd_ne e] at hb; exact hb, fun _ h => h, fun _ h => .inl h, fun _ _ h => .inl h⟩
  have k := E.kept x
  have hl : i < ρ.length := lt_of_at h
  refine ⟨⟨by rw [List.length_set]; exact E.len, fun j r e => ?_, fun j b e => ?_, E.inj, E.nf, fun b hb z => ?_, by
    obtain ⟨u, hu, _⟩ := E.there ho
    exact tabs_put E.tb hu (E.nc ho hu)⟩, x, k⟩
  · by_cases hj : j = i
    · subst hj
      rw [List.getElem?_set_self hl] at e
      cases e
      obtain ⟨v, h1, b, h2, h3, _⟩ := E.at_ j _ h
      rw [hO] at h2
      cases h2
      exact ⟨v, h1, a, hO, h3, new k⟩
    · rw [List.getElem?_set_ne (Ne.symm hj)] at e
      obtain ⟨v, h1, h2⟩ := E.at_ j r e
      exact ⟨v, h1, h2.mono k (fun _ h => h) fun b u hb hu => by
        have n : b ≠ a := fun z => hj (E.inj j i a (z ▸ hb) ho)
        rw [upd_ne n]; exact hu⟩
  · by_cases hj : j = i
    · subst hj
      exact ⟨_, by rw [List.getElem?_set_self hl]⟩
    · rw [List.getElem?_set_ne (Ne.symm hj)]
      exact E.own j b e
  · by_cases e : b = a
    · subst e; exact E.nf i b ho hb
    · rw [upd_ne e] at z; exact E.lv b hb z
theorem own_lst (E : EnvR T H F O σ ρ) {i : Nat} {ds : List PyData} (h : ρ[i]? = some (some (.own (.list ds)))) : ∃ a vs, σ[i]? = some (some (.ref a)) ∧ O i = [a] ∧ H a = some (.lst vs) ∧ DFs T.K H F vs ds := by
  obtain ⟨v, h1, a, h2, rfl, vs, h3, h4⟩ := E.at_ i _ h
  exact ⟨a, vs, h1, h2, h3, h4⟩
end
def isList : Option (Option R) → Bool
  | some (some (.own (.list _))) => true
  | _ => false
theorem isList_ex {x : Option (Option R)} (h : isList x = true) : ∃ ds, x = some (some (.own (.list ds))) := by
  unfold isList at h
  split at h
  · exact ⟨_, rfl⟩
  · cases h
/-- x.append(e) -/
def appM (i : Nat) (fe : EM) : SM := fun ρ => if isList ρ[i]? = true then bindS (fe ρ) fun r ρ1 => match frz ρ1 r with
    | some (d, ρ2) => match ρ2[i]? with
      | some (some (.own (.list ds))) => if ds.length < lim then some (.nx (ρ2.set i (some (.own (.list (ds ++ [d])))))) else none
      | _ => none
    | none => none
  else none
/-- x[i] = e -/
def setM (s : Nat) (fi fe : EM) : SM := fun ρ => bindS (fe ρ) fun r ρ1 => match frz ρ1 r with
  | some (d, ρ2) => if isList ρ2[s]? = true then bindS (fi ρ2) fun ri ρ3 => match ri, ρ3[s]? with
      | .dat (.int k), some (some (.own (.list ds))) => (ixN ds.length k).map fun j => .nx (ρ3.set s (some (.own (.list (ds.set j d)))))
      | _, _ => none
    else none
  | none => none
/-- a result that may be stored in a slot: what another slot holds is shared, so it stays -/
def sv (ρ : Rho) : R → Option (R × Rho)
  | .slt i => (frz ρ (.slt i)).map fun p => (.dat p.1, p.2)
  | .ex _ _ => none
  | .two _ _ => none
  | .prt _ _ => none
  | r => some (r, ρ)
/-- what a slot may hold -/
def Sto : R → Prop
  | .slt _ => False
  | .two _ _ => False
  | .prt _ _ => False
  | _ => True
def parM (i j : Nat) (fa fb : EM) : SM := fun ρ => bindS (fa ρ) fun r ρ1 => match sv ρ1 r with
  | some (r', ρ2) => bindS (fb ρ2) fun s ρ3 => match sv ρ3 s with
    | some (s', ρ4) => some (.nx ((ρ4.set i (some r')).set j (some s')))
    | none => none
  | none => none
def parM3 (i j l : Nat) (fa fb fc : EM) : SM := fun ρ => bindS (fa ρ) fun r ρ1 => match sv ρ1 r with
  | some (r', ρ2) => bindS (fb ρ2) fun s ρ3 => match sv ρ3 s with
    | some (s', ρ4) => bindS (fc ρ4) fun t ρ5 => match sv ρ5 t with
      | some (t', ρ6) => some (.nx (((ρ6.set i (some r')).set j (some s')).set l (some t')))
      | none => none
    | none => none
  | none => none
/-- a, b = e, e a tuple -/
def asgTM (g : GM) (fe : EM) : SM := fun ρ => bindS (fe ρ) fun r ρ1 => match frz ρ1 r with
  | some (d, ρ2) => (g d ρ2).map .nx
  | none => none
/-- how many turns a while is given: more than the whole numbers in its slots -/
def fuelR : Rho → Nat
  | [] => 1
  | some (.dat (.int i)) :: r => i.natAbs + 1 + fuelR r
  | _ :: r => fuelR r
def whL (c : Rho → Option (Oe Bool)) (body : SM) : Nat → SM
  | 0, _ => none
  | n + 1, ρ => bindS (c ρ) fun b ρ1 => if b = true then match body ρ1 with
      | some (.nx ρ2) => whL c body n ρ2
      | some (.ct ρ2) => whL c body n ρ2
      | some (.bk ρ2) => some (.nx ρ2)
      | o => o
    else some (.nx ρ1)
def whM (c : Rho → Option (Oe Bool)) (body : SM) : SM := fun ρ => whL c body (fuelR ρ) ρ
section
variable {X : Cx} {T : Tb} {W : WX} {φ : Fm} {e ei : Expr} {fe fi : EM} {pos p apos : Pos} {i : Nat} {x : Str}
theorem ss_app {ex : Expr} (h : PE X ex (tBM X.K "list" rAppend (tVar i) (tCons (Tof T W (tlE T) fe) tNil))) (hs : swapsWith ex none pos.line X.env = pure false := by rfl) : SS X T W φ (.Expr ex pos) (appM i fe) := by
  refine ps_imp (ps_expr h hs) fun D σ H ⟨ρ, F, O, S, P⟩ => ?_
  unfold appM at P
  split at P
  · rename_i hi
    obtain ⟨ds0, q0⟩ := isList_ex hi
    obtain ⟨a, vs0, h1, h2, h3, h4⟩ := own_lst S.E q0
    refine ⟨.ref a, h1, .inl ⟨rfl, vs0, .inl (.inl h3)⟩, ?_⟩
    refine sps .refl .refl S P fun v H1 r ρ1 F1 O1 x1 y1 S1 r1 P1 => ?_
    cases q : frz ρ1 r with
    | none => rw [q] at P1; exact P1.elim
    | some z =>
      obtain ⟨d, ρ2⟩ := z
      rw [q] at P1
      dsimp only at P1
      obtain ⟨F2, O2, y2, E2, d2, _, sb, _⟩ := fz y1 (fun _ h => h) S1.E r1 q
      split at P1
      · rename_i ds q2
        split at P1
        · rename_i hz
          obtain ⟨b, vs, g1, g2, g3, g4⟩ := own_lst E2 q2
          rw [h1] at g1
          cases g1
          refine ⟨a, vs, v, rfl, rfl, g3, by rw [g4.length]; exact Nat.lt_of_lt_of_le hz (by decide), ?_⟩
          obtain ⟨E3, x3, k3⟩ := E2.mut (o := .lst (vs ++ [v])) (d' := .list (ds ++ [d])) (s := true) q2 g2 fun k => ⟨_, upd_same, (g4.append (.cons d2 .nil)).mono k fun _ h => h⟩
          exact P1 σ _ F2 O2 (y2.trans x3) ⟨E3, fun b h => S1.lb b (x3.live b h), fun j b hj q => S1.lf j b hj (sb j b q)⟩ .refl
        · exact P1.elim
      · exact P1.elim
  · exact P.elim
theorem ss_set {s : Nat} {tg : Expr} (he : SE X T W e fe) (hpg : PG X tg (gSub (tVar s) (Tof T W (tlE T) fi) rSetL)) (hs : swapsWithSole [tg] e pos.line X.env = pure false := by rfl) (hw : swappedStores [tg] e X.env = pure none := by rfl) (h1 : (assignEach [tg] X.env).map (·.2) = [assign tg X.env] := by rfl) :
    SS X T W φ (.Assign [tg] e pos) (setM s fi fe) := by
  refine ps_imp (ps_asg he hpg hs hw h1) fun D σ H ⟨ρ, F, O, S, P⟩ => ?_
  refine sps .refl .refl S P fun v H1 r ρ1 F1 O1 x1 y1 S1 r1 P1 => ?_
  cases q : frz ρ1 r with
  | none => rw [q] at P1; exact P1.elim
  | some z =>
    obtain ⟨d, ρ2⟩ := z
    rw [q] at P1
    dsimp only at P1
    obtain ⟨F2, O2, y2, E2, d2, _, sb, _⟩ := fz y1 (fun _ h => h) S1.E r1 q
    have S2 : StR T φ H1 F2 O2 σ ρ2 := ⟨E2, S1.lb, fun j b hj q => S1.lf j b hj (sb j b q)⟩
    split at P1
    · rename_i hi
      obtain ⟨ds0, q0⟩ := isList_ex hi
      obtain ⟨a, vs0, h1, h2, h3, h4⟩ := own_lst E2 q0
      refine ⟨.ref a, h1, ?_⟩
      refine sps y2 .refl S2 P1 fun u H3 ri ρ3 F3 O3 x3 y3 S3 r3 P3 => ?_
      split at P3
      · rename_i k ds q3
        obtain ⟨j, e1, e2⟩ : ∃ j, ixN ds.length k = some j ∧ True := by
          cases z : ixN ds.length k with
          | none => rw [z] at P3; exact P3.elim
          | some j => exact ⟨j, rfl, trivial⟩
        rw [e1] at P3
        obtain ⟨b, vs, g1, g2, g3, g4⟩ := own_lst S3.E q3
        rw [h1] at g1
        cases g1
        refine ⟨a, vs, k, j, rfl, int_of r3, g3, by rw [g4.length]; exact e1, ?_⟩
        have d3 : DF T.K H3 F3 v d := d2.mono (E2.kept x3) x3.grow
        obtain ⟨E4, x4, k4⟩ := S3.E.mut (o := .lst (vs.set j v)) (d' := .list (ds.set j d)) (s := true) q3 g2 fun k => ⟨_, upd_same, (g4.set d3 j).mono k fun _ h => h⟩
        exact P3 σ _ F3 O3 (y3.trans x4) ⟨E4, fun b h => S3.lb b (x4.live b h), S3.lf⟩ .refl
      · exact P3.elim
    · exact P1.elim
theorem sv_ok {t : Bool} {B H0 H : Hp} {FB F : Reg} {OB O : Ows} {σ : L2.St} {ρ ρ' : Rho} {v : V} (x : Ext t B FB OB H F O) (l : ∀ b, H0 b = none → B b = none) (E : EnvR T H F O σ ρ) {r r' : R} (h : ResR T H0 H F O σ v r) (e : sv ρ r = some (r', ρ')) :
    ∃ F' O', Ext t B FB OB H F' O' ∧ EnvR T H F' O' σ ρ' ∧ ResR T H0 H F' O' σ v r' ∧ (∀ b, F b → F' b) ∧ Sub O' O ∧ (∀ b, F' b → F b ∨ ∃ i, b ∈ O i) ∧ Sto r' := by
  cases r with
  | dat d => cases e; exact ⟨F, O, x, E, h, fun _ h => h, fun _ _ h => h, fun _ h => .inl h, trivial⟩
  | own d => cases e; exact ⟨F, O, x, E, h, fun _ h => h, fun _ _ h => h, fun _ h => .inl h, trivial⟩
  | fn d => cases e; exact ⟨F, O, x, E, h, fun _ h => h, fun _ _ h => h, fun _ h => .inl h, trivial⟩
  | st d => cases e; exact ⟨F, O, x, E, h, fun _ h => h, fun _ _ h => h, fun _ h => .inl h, trivial⟩
  | ex c d => cases e
  | two c d => cases e
  | prt c d => cases e
  | obj d => cases e; exact ⟨F, O, x, E, h, fun _ h => h, fun _ _ h => h, fun _ h => .inl h, trivial⟩
  | slt i =>
    obtain ⟨⟨d, ρ1⟩, e1, e2⟩ := Option.map_eq_some_iff.mp (show (frz ρ (.slt i)).map (fun p => (R.dat p.1, p.2)) = some (r', ρ') from e)
    cases e2
    -- here what is new in the region is the slot's own
    have h' : σ[i]? = some (some v) := h
    have key : ∀ (d1 : PyData), ρ[i]? = some (some (.dat d1)) ∨ ρ[i]? = some (some (.own d1)) → slotD ρ[i]? = some d1 := fun d1 z => z.elim (fun z => by rw [z]; rfl) fun z => by rw [z]; rfl
    cases q : ρ[i]? with
    | none => exact absurd e1 (by simp [frz, q, slotD])
    | some o =>
      cases o with
      | none => exact absurd e1 (by simp [frz, q, slotD])
      | some r =>
        obtain ⟨u, hu, s⟩ := E.at_ i r q
        rw [h'] at hu
        cases hu
        cases r with
        | dat d1 =>
          have e3 : some (d1, ρ.set i (some (.dat d1))) = some (d, ρ1) := by simpa [frz, q, slotD] using e1
          cases e3
          exact ⟨F, O, x, E.setD q, s.2, fun _ h => h, fun _ _ h => h, fun _ h => .inl h, trivial⟩
        | own d1 =>
          have e3 : some (d1, ρ.set i (some (.dat d1))) = some (d, ρ1) := by simpa [frz, q, slotD] using e1
          cases e3
          obtain ⟨a, z1, z2, z3⟩ := s
          have zm : a ∈ O i := by rw [z1]; exact List.mem_singleton.mpr rfl
          subst z2
          have hd : DF T.K H (fun b => F b ∨ b = a) (.ref a) d := OwnAt.df (F := fun b => F b ∨ b = a) (.inr rfl) (z3.mono (fun _ _ h _ => h) (fun _ h => .inl h) fun _ h => h)
          have sb : Sub (fun j => if j = i then [] else O j) O := fun j b q => by
            have q' : b ∈ (if j = i then [] else O j) := q
            by_cases hj : j = i
            · rw [if_pos hj] at q'; cases q'
            · rw [if_neg hj] at q'; exact q'
          refine ⟨fun b => F b ∨ b = a, fun j => if j = i then [] else O j, ⟨x.keep, x.live, fun b h => .inl (x.grow b h), fun b h => ?_, fun j b e => x.own j b (sb j b e)⟩, vw_fz E z1 h' (fun _ => Iff.rfl) hd, hd, fun _ h => .inl h, sb, fun b h => h.elim .inl fun z => .inr ⟨i, z ▸ zm⟩, trivial⟩
          rcases h with h | rfl
          · exact x.new b h
          · exact .inr (x.ow zm)
        | slt j => exact absurd e1 (by simp [frz, q, slotD])
        | fn k => exact absurd e1 (by simp [frz, q, slotD])
        | st xs => exact absurd e1 (by simp [frz, q, slotD])
        | ex c fs => exact absurd e1 (by simp [frz, q, slotD])
        | two c fs => exact absurd e1 (by simp [frz, q, slotD])
        | prt c fs => exact absurd e1 (by simp [frz, q, slotD])
        | obj c => exact absurd e1 (by simp [frz, q, slotD])
/-- where a result's own things stand -/
def Own1 (T : Tb) (H0 H : Hp) (F : Reg) (O : Ows) (v : V) (r : R) (L : List Addr) : Prop := SlotR T H F L v r ∧ ∀ a, a ∈ L → ¬ F a ∧ (∀ i, a ∉ O i) ∧ H0 a = none ∧ ∃ o, H a = some o
theorem res_slot {H0 H : Hp} {F : Reg} {O : Ows} {σ : L2.St} {v : V} {r : R} (h : ResR T H0 H F O σ v r) (n : Sto r) : ∃ L, Own1 T H0 H F O v r L := by
  cases r with
  | dat d => exact ⟨[], ⟨rfl, h⟩, fun _ q => absurd q List.not_mem_nil⟩
  | fn d => exact ⟨[], ⟨rfl, h⟩, fun _ q => absurd q List.not_mem_nil⟩
  | slt i => exact n.elim
  | two c d => exact n.elim
  | prt c d => exact n.elim
  | ex c d => exact ⟨[], ⟨rfl, h⟩, fun _ q => absurd q List.not_mem_nil⟩
  | own d =>
    obtain ⟨a, rfl, h2, h3, h4, h5⟩ := h
    exact ⟨[a], ⟨a, rfl, rfl, h5⟩, fun b q => by
      cases List.mem_singleton.mp q
      obtain ⟨o, ho, _⟩ := h5.there
      exact ⟨h3, h4, h2, o, ho⟩⟩
  | st d =>
    obtain ⟨a, rfl, h2, h3, h4, h5⟩ := h
    exact ⟨[a], ⟨a, rfl, rfl, h5⟩, fun b q => by
      cases List.mem_singleton.mp q
      obtain ⟨o, ho, _⟩ := h5.there
      exact ⟨h3, h4, h2, o, ho⟩⟩
  | obj d =>
    obtain ⟨L, h1, h2⟩ := h
    refine ⟨L, h2, fun b q => ?_⟩
    obtain ⟨o, ho, _⟩ := h2.there q
    exact ⟨(h1 b q).2.1, (h1 b q).2.2, (h1 b q).1, o, ho⟩
theorem Own1.mono {H0 H H' : Hp} {F F' : Reg} {O O' : Ows} {σ : L2.St} {ρ : Rho} {v : V} {r : R} {L : List Addr} {s : Bool} (E : EnvR T H F O σ ρ) (x : Ext s H F O H' F' O') (w : Own1 T H0 H F O v r L) : Own1 T H0 H' F' O' v r L := by
  obtain ⟨h, w⟩ := w
  refine ⟨h.mono (E.kept x) x.grow fun a o ha ho => x.keep a o ho (w a ha).2.1 (h.nc ha ho).1, fun a ha => ?_⟩
  obtain ⟨w1, w2, w3, o, ho⟩ := w a ha
  refine ⟨fun z => ?_, fun i z => ?_, w3, o, x.keep a o ho w2 (h.nc ha ho).1⟩
  · rcases x.new a z with y | ⟨i, y⟩ | y
    · exact w1 y
    · exact w2 i y
    · rw [ho] at y; cases y
  · rcases x.ow z with ⟨j, y⟩ | y
    · exact w2 j y
    · rw [ho] at y; cases y
theorem Own1.up {H0 H : Hp} {F F' : Reg} {O O' : Ows} {v : V} {r : R} {L : List Addr} (g : ∀ b, F b → F' b) (sb : Sub O' O) (n : ∀ b, F' b → F b ∨ ∃ i, b ∈ O i) (w : Own1 T H0 H F O v r L) : Own1 T H0 H F' O' v r L :=
  ⟨w.1.mono (fun _ _ h _ => h) g (fun _ _ _ h => h), fun a ha => by
    obtain ⟨w1, w2, w3, w4⟩ := w.2 a ha
    exact ⟨fun z => (n a z).elim w1 fun ⟨i, y⟩ => w2 i y, fun i z => w2 i (sb i a z), w3, w4⟩⟩
theorem put_ok {B H : Hp} {FB F : Reg} {OB O : Ows} {σ : L2.St} {ρ : Rho} {v : V} {r : R} {i : Nat} {L : List Addr} (x : Ext true B FB OB H F O) (S : StR T φ H F O σ ρ) (hi : i < σ.length) (s : SlotR T H F L v r) (c : ∀ a, a ∈ L → ¬ F a ∧ (∀ k, a ∉ O k) ∧ B a = none ∧ φ.HB a = none) :
    ∃ O', Ext true B FB OB H F O' ∧ StR T φ H F O' (σ.set i (some v)) (ρ.set i (some r)) ∧ ∀ k a, a ∈ O' k → a ∈ O k ∨ a ∈ L := by
  have cs : ∀ k a, a ∈ (if k = i then L else O k) → a ∈ O k ∨ a ∈ L := fun k a q => by
    by_cases hk : k = i
    · rw [if_pos hk] at q; exact .inr q
    · rw [if_neg hk] at q; exact .inl q
  refine ⟨fun k => if k = i then L else O k, ⟨x.keep, x.live, x.grow, x.new, fun k b q => ?_⟩, ⟨S.E.put hi s (fun a q => (c a q).1) fun a q => (c a q).2.1, S.lb, fun k b hk q => ?_⟩, cs⟩
  · rcases cs k b q with z | z
    · exact x.own k b z
    · exact .inr ⟨rfl, .inr (c b z).2.2.1⟩
  · rcases cs k b q with z | z
    · exact S.lf k b hk z
    · exact (c b z).2.2.2
theorem par_of {i j : Nat} {fa fb : EM} {D : Ends} {σ : L2.St} {H : Hp} (hp : φ.pr i = false) (hq : φ.pr j = false) (hi : i < σ.length) (hj : j < σ.length) (h : TSof T W φ (parM i j fa fb) D σ H) : tPar i j (tCons (Tof T W (tlE T) fa) (tCons (Tof T W (tlE T) fb) tNil)) D σ H := by
  obtain ⟨ρ, F, O, S, P⟩ := h
  refine sps .refl .refl S P fun v H1 r ρ1 F1 O1 x1 y1 S1 r1 P1 => ?_
  cases q1 : sv ρ1 r with
  | none => rw [q1] at P1; exact P1.elim
  | some z =>
    obtain ⟨r', ρ2⟩ := z
    rw [q1] at P1
    dsimp only at P1
    obtain ⟨F2, O2, y2, E2, r2, g2, sb2, _, n2⟩ := sv_ok y1 (fun _ h => h) S1.E r1 q1
    have S2 : StR T φ H1 F2 O2 σ ρ2 := ⟨E2, S1.lb, fun k b hk q => S1.lf k b hk (sb2 k b q)⟩
    refine sps y2 .refl S2 P1 fun u H3 s ρ3 F3 O3 x3 y3 S3 r3 P3 => ?_
    cases q3 : sv ρ3 s with
    | none => rw [q3] at P3; exact P3.elim
    | some z =>
      obtain ⟨s', ρ4⟩ := z
      rw [q3] at P3
      obtain ⟨F4, O4, y4, E4, r4, g4, sb4, nw4, n4⟩ := sv_ok y3 (fun b h => y1.live b h) S3.E r3 q3
      have S4 : StR T φ H3 F4 O4 σ ρ4 := ⟨E4, S3.lb, fun k b hk q => S3.lf k b hk (sb4 k b q)⟩
      obtain ⟨L2, w2⟩ := res_slot r2 n2
      obtain ⟨L4, w4⟩ := res_slot r4 n4
      have c2 := w2.2
      obtain ⟨s5, c5⟩ := Own1.up g4 sb4 nw4 (Own1.mono E2 x3 w2)
      obtain ⟨s6, c6⟩ := w4
      obtain ⟨O5, y5, S5, w5⟩ := put_ok y4 S4 hi s5 fun a e => ⟨(c5 a e).1, (c5 a e).2.1, (c5 a e).2.2.1, S.lb a (c5 a e).2.2.1⟩
      have ne : ∀ a, a ∈ L4 → ∀ k, a ∉ O5 k := fun a e k z => by
        rcases w5 k a z with z | z
        · exact (c6 a e).2.1 k z
        · obtain ⟨o, ho⟩ := (c2 a z).2.2.2
          have := (c6 a e).2.2.1
          rw [ho] at this; cases this
      obtain ⟨O6, y6, S6, _⟩ := put_ok y5 S5 (by rw [List.length_set]; exact hj) s6 fun a e => ⟨(c6 a e).1, ne a e, y1.live a (c6 a e).2.2.1, S1.lb a (c6 a e).2.2.1⟩
      exact ⟨v, u, rfl, P3 _ H3 F4 O6 y6 S6 (.trans (.set hp) (.set hq))⟩
theorem ss_par {st : Stmt} {i j : Nat} {x y : Str} {fa fb : EM} (hp : φ.pr i = false) (hq : φ.pr j = false) (hi : X.N[i]? = some x) (hj : X.N[j]? = some y) (h : PS X st (tPar i j (tCons (Tof T W (tlE T) fa) (tCons (Tof T W (tlE T) fb) tNil)))) : SS X T W φ st (parM i j fa fb) :=
  ps_impL h fun D σ H hl q => par_of hp hq (by rw [hl]; exact lt_of_at hi) (by rw [hl]; exact lt_of_at hj) q
/-- while -/
theorem wh_of {c : Rho → Option (Oe Bool)} {fb : SM} {D : Ends} {σ : L2.St} {H : Hp} (h : TSof T W φ (whM c fb) D σ H) : tWhile (Tof T W tlB c) (TSof T W φ fb) D σ H := by
  obtain ⟨ρ, F, O, S, P⟩ := h
  refine ⟨fun m σ' H' => ∃ ρ' F' O', Ext true H F O H' F' O' ∧ Keeps φ.pr σ σ' ∧ StR T φ H' F' O' σ' ρ' ∧ PostS T W φ σ H F O D (whL c fb m ρ'), ⟨fuelR ρ, ρ, F, O, .refl, .refl, S, P⟩, ?_⟩
  rintro m σ' H' ⟨ρ', F', O', x', k', S', P'⟩
  cases m with
  | zero => exact P'.elim
  | succ m =>
    refine sps x' k' S' P' fun v H1 b ρ1 F1 O1 x1 y1 S1 r1 P1 => ?_
    have r1' : v = b := r1
    subst r1'
    cases v with
    | false => rw [if_neg Bool.false_ne_true] at P1 ⊢; exact P1 σ' H1 F1 O1 y1 S1 k'
    | true =>
      rw [if_pos rfl] at P1 ⊢
      refine ⟨fun σ2 H2 => ∃ ρ' F' O', Ext true H F O H2 F' O' ∧ Keeps φ.pr σ σ2 ∧ StR T φ H2 F' O' σ2 ρ' ∧ PostS T W φ σ H F O D (whL c fb m ρ'), fun σ2 H2 z => ⟨m, Nat.lt_succ_self m, z⟩, ρ1, F1, O1, S1, ?_⟩
      cases q : fb ρ1 with
      | none => rw [q] at P1; exact P1
      | some o =>
        rw [q] at P1
        cases o with
        | nx ρ4 => exact fun σ4 H4 F4 O4 x4 S4 k4 => ⟨ρ4, F4, O4, y1.trans x4, k'.trans k4, S4, P1⟩
        | ct ρ4 => exact fun σ4 H4 F4 O4 x4 S4 k4 => ⟨ρ4, F4, O4, y1.trans x4, k'.trans k4, S4, P1⟩
        | bk ρ4 => exact fun σ4 H4 F4 O4 x4 S4 k4 => P1 σ4 H4 F4 O4 (y1.trans x4) S4 (k'.trans k4)
        | rt r ρ4 => exact fun v σ4 H4 F4 O4 x4 S4 k4 r4 => P1 v σ4 H4 F4 O4 (y1.trans x4) S4 (k'.trans k4) r4
        | er c fs ρ4 => exact fun cls d σ4 H4 F4 O4 x4 S4 k4 r4 => P1 cls d σ4 H4 F4 O4 (y1.trans x4) S4 (k'.trans k4) r4
theorem ss_while {ce : Expr} {body : List Stmt} {c : Rho → Option (Oe Bool)} {fb : SM} (hp : PassesOwn (model X.prog X.w) X.A X.env X.xe) (hc : ST X T W ce c) (hb : SB X T W φ body fb) : SS X T W φ (.While ce body [] pos) (whM c fb) :=
  ps_imp (ps_while hp hc hb) fun _ _ _ h => wh_of h
end
end DL
namespace DL
open PySem L2 PyProof.Rows
def lenD : PyData → Option R
  | .list ds => some (.dat (.int ds.length))
  | .tuple ds => some (.dat (.int ds.length))
  | .str x => if x.length ≤ lim then some (.dat (.int x.length)) else none
  | _ => none
def absD : PyData → Option R
  | .int i => some (.dat (.int (if i < 0 then -i else i)))
  | _ => none
def tupD : PyData → Option R
  | .list ds => some (.dat (.tuple ds))
  | .tuple ds => some (.dat (.tuple ds))
  | _ => none
def lstD : PyData → Option R
  | .list ds => some (.own (.list ds))
  | .tuple ds => some (.own (.list ds))
  | _ => none
def intD : PyData → Option R
  | .int i => some (.dat (.int i))
  | .bool b => some (.dat (.int (if b then 1 else 0)))
  | _ => none
def strD : PyData → Option R
  | .int i => if i.natAbs.log2 < 1920 then some (.dat (.str (toString i))) else none
  | _ => none
def max2D : PyData → PyData → Option R
  | .int i, .int j => some (.dat (.int (if j > i then j else i)))
  | _, _ => none
def min2D : PyData → PyData → Option R
  | .int i, .int j => some (.dat (.int (if j < i then j else i)))
  | _, _ => none
def intsOf : List PyData → Option (List Int)
  | [] => some []
  | .int i :: r => (intsOf r).map (i :: ·)
  | _ => none
def boolsOf : List PyData → Option (List Bool)
  | [] => some []
  | .bool i :: r => (boolsOf r).map (i :: ·)
  | _ => none
@[simp] theorem intsOf_map : ∀ ns : List Int, intsOf (ns.map PyData.int) = some ns
  | [] => rfl
  | i :: r => by show (intsOf (r.map PyData.int)).map (i :: ·) = _; rw [intsOf_map r]; rfl
theorem boolsOf_eq : ∀ {ds : List PyData} {ns : List Bool}, boolsOf ds = some ns → ds = ns.map PyData.bool
  | [], _, h => by cases h; rfl
  | .bool i :: r, _, h => by
    obtain ⟨ns, h1, rfl⟩ := Option.map_eq_some_iff.mp (show (boolsOf r).map (i :: ·) = _ from h)
    rw [List.map_cons, ← boolsOf_eq h1]
@[simp] theorem boolsOf_map : ∀ ns : List Bool, boolsOf (ns.map PyData.bool) = some ns
  | [] => rfl
  | i :: r => by show (boolsOf (r.map PyData.bool)).map (i :: ·) = _; rw [boolsOf_map r]; rfl
def sumD (d : PyData) : Option R := (itemsOf d).bind fun ds => (intsOf ds).map fun ns => .dat (.int ns.sum)
def allD : PyData → Option R
  | .list ds => (boolsOf ds).map fun bs => .dat (.bool (bs.all id))
  | _ => none
def anyD : PyData → Option R
  | .list ds => (boolsOf ds).map fun bs => .dat (.bool (bs.any id))
  | _ => none
/-- as functions of a list of arguments -/
def on1 (g : PyData → Option R) : List PyData → Option R
  | [d] => g d
  | _ => none
def on2 (g : PyData → PyData → Option R) : List PyData → Option R
  | [d, e] => g d e
  | _ => none
section
variable {T : Tb}
theorem does1_on {r : List V → Hp → VK → Prop} {g : PyData → Option R} (h : Does1 T (fun x => r [x]) g) : DoesN T r (on1 g) := by
  intro xs ds z H F Q lv hx hg hq
  unfold on1 at hg
  split at hg
  · cases hx with
    | cons a b => cases b; exact h _ _ z H F Q lv a hg hq
  · cases hg
theorem does2_on {r : List V → Hp → VK → Prop} {g : PyData → PyData → Option R} (h : Does2 T (fun x y => r [x, y]) g) : DoesN T r (on2 g) := by
  intro xs ds z H F Q lv hx hg hq
  unfold on2 at hg
  split at hg
  · cases hx with
    | cons a b => cases b with
      | cons a' b' => cases b'; exact h _ _ _ _ z H F Q lv a a' hg hq
  · cases hg
def rLen (K : PySem.W.Frag) : List V → Hp → VK → Prop := fun xs H Q => (∃ p ys, xs = [.ref p] ∧ (SqL K H p ys ∨ SqT K H p ys) ∧ Q (.int ys.length) H) ∨ ∃ z, xs = [.str z] ∧ z.length ≤ sizeLine ∧ Q (.int z.length) H
theorem call_lenX {X : Cx} : CallR X (.builtin "len") (rLen X.K) := call_len_seq.or call_len_str
theorem does_len : DoesN T (rLen T.K) (on1 lenD) := does1_on fun x d z H F Q lv hx hg hq => by
  unfold lenD at hg
  split at hg
  · cases hg
    obtain ⟨a, vs, rfl, h1, s1⟩ := hx.lst
    exact .inl ⟨a, vs, rfl, .inl h1.sq, hq _ H F .refl (by rw [s1.length]; exact .int _)⟩
  · cases hg
    obtain ⟨a, vs, rfl, h1, s1⟩ := hx.tup
    exact .inl ⟨a, vs, rfl, .inr h1, hq _ H F .refl (by rw [s1.length]; exact .int _)⟩
  · split at hg
    · rename_i hz
      cases hg
      exact .inr ⟨_, by rw [hx.str], lm hz, hq _ H F .refl (.int _)⟩
    · cases hg
  · cases hg
theorem does_abs : DoesN T (fun xs H Q => ∃ i, xs = [.int i] ∧ Q (.int (if i < 0 then -i else i)) H) (on1 absD) := does1_on fun x d z H F Q lv hx hg hq => by
  unfold absD at hg
  split at hg
  · cases hg
    exact ⟨_, by rw [hx.int], hq _ H F .refl (.int _)⟩
  · cases hg
theorem does_tuple : DoesN T (fun xs H Q => ∃ p ys, xs = [.ref p] ∧ ((SqL T.K H p ys ∧ ∀ l, H l = none → Q (.ref l) (upd H l (.tup ys))) ∨ (SqT T.K H p ys ∧ Q (.ref p) H))) (on1 tupD) := does1_on fun x d z H F Q lv hx hg hq => by
  unfold tupD at hg
  split at hg
  · cases hg
    obtain ⟨a, vs, rfl, h1, s1⟩ := hx.lst
    exact ⟨a, vs, rfl, .inl ⟨h1.sq, fun l hl => hq _ _ F (.laid hl) (resN_tup hl s1)⟩⟩
  · cases hg
    obtain ⟨a, vs, rfl, h1, s1⟩ := hx.tup
    exact ⟨a, vs, rfl, .inr ⟨h1, hq _ H F .refl (.tup h1 s1)⟩⟩
  · cases hg
theorem does_list : DoesN T (fun xs H Q => ∃ p ys, xs = [.ref p] ∧ (SqL T.K H p ys ∨ SqT T.K H p ys) ∧ ∀ l, H l = none → Q (.ref l) (upd H l (.lst ys))) (on1 lstD) := does1_on fun x d z H F Q lv hx hg hq => by
  unfold lstD at hg
  split at hg
  · cases hg
    obtain ⟨a, vs, rfl, h1, s1⟩ := hx.lst
    exact ⟨a, vs, rfl, .inl h1.sq, fun l hl => hq _ _ F (.laid hl) (resN_lst hl (fun q => lv l q hl) s1)⟩
  · cases hg
    obtain ⟨a, vs, rfl, h1, s1⟩ := hx.tup
    exact ⟨a, vs, rfl, .inr h1, fun l hl => hq _ _ F (.laid hl) (resN_lst hl (fun q => lv l q hl) s1)⟩
  · cases hg
theorem does_int : DoesN T (fun xs H Q => (∃ i, xs = [.int i] ∧ Q (.int i) H) ∨ ∃ k, xs = [.bl k] ∧ Q (.int (if k then 1 else 0)) H) (on1 intD) := does1_on fun x d z H F Q lv hx hg hq => by
  unfold intD at hg
  split at hg
  · cases hg
    exact .inl ⟨_, by rw [hx.int], hq _ H F .refl (.int _)⟩
  · cases hg
    exact .inr ⟨_, by rw [hx.bl], hq _ H F .refl (.int _)⟩
  · cases hg
theorem does_max2 : DoesN T (fun xs H Q => ∃ i j, xs = [.int i, .int j] ∧ Q (.int (if j > i then j else i)) H) (on2 max2D) := does2_on fun x y d e z H F Q lv hx hy hg hq => by
  unfold max2D at hg
  split at hg
  · cases hg
    exact ⟨_, _, by rw [hx.int, hy.int], hq _ H F .refl (.int _)⟩
  · cases hg
theorem does_min2 : DoesN T (fun xs H Q => ∃ i j, xs = [.int i, .int j] ∧ Q (.int (if j < i then j else i)) H) (on2 min2D) := does2_on fun x y d e z H F Q lv hx hy hg hq => by
  unfold min2D at hg
  split at hg
  · cases hg
    exact ⟨_, _, by rw [hx.int, hy.int], hq _ H F .refl (.int _)⟩
  · cases hg
theorem does_all : DoesN T (rAll T.K) (on1 allD) := does1_on fun x d z H F Q lv hx hg hq => by
  unfold allD at hg
  split at hg
  · obtain ⟨bs, h1, rfl⟩ := Option.map_eq_some_iff.mp hg
    obtain ⟨a, vs, rfl, h2, s1⟩ := hx.lst
    rw [boolsOf_eq h1] at s1
    exact ⟨a, bs, rfl, by rw [← s1.bools]; exact h2.sq, hq _ H F .refl (.bl _)⟩
  · cases hg
theorem does_any : DoesN T (rAny T.K) (on1 anyD) := does1_on fun x d z H F Q lv hx hg hq => by
  unfold anyD at hg
  split at hg
  · obtain ⟨bs, h1, rfl⟩ := Option.map_eq_some_iff.mp hg
    obtain ⟨a, vs, rfl, h2, s1⟩ := hx.lst
    rw [boolsOf_eq h1] at s1
    exact ⟨a, bs, rfl, by rw [← s1.bools]; exact h2.sq, hq _ H F .refl (.bl _)⟩
  · cases hg
end
def tyN : PyData → String
  | .none => "NoneType"
  | .bool _ => "bool"
  | .int _ => "int"
  | .str _ => "str"
  | .list _ => "list"
  | .tuple _ => "tuple"
  | .dict _ => "dict"
def isiD (c : String) (d : PyData) : Option R := (kitB (tyN d) c).map fun b => .dat (.bool b)
section
variable {T : Tb} {H : Hp} {F : Reg}
/-- a value's type, dicts known to the object too -/
def TyY (K : PySem.W.Frag) (H : Hp) (x : V) (t : Value) : Prop := TyX K H x t ∨ ∃ a o, x = .ref a ∧ H a = some (DTo a o) ∧ o.cls = .type "dict" ∧ t = .type "dict"
theorem kit_ofY {X : Cx} {pins : List (Addr × Obj)} {σ : L2.St} {s : Shared} {x : V} {u t : Value} (I : L2.Inv X pins σ H s) (rx : RelV x u) (ty : TyY X.K H x t) : ∃ P : Heap → Prop, PySem.W.KitX X.K u t P ∧ P s.heap ∧ u ≠ .builtin "__main__.__loader__#opaque" := by
  rcases ty with ty | ⟨a, o, rfl, ea, ec, rfl⟩
  · exact kit_of I rx ty
  · cases (show u = Value.ref a from rx)
    have h1 : s.heap.get? a = some o := (I.hok a _ ea).1
    exact ⟨_, PySem.W.kitx_dict, ⟨o, h1, ec⟩, fun z => nomatch z⟩
def rIsiY (K : PySem.W.Frag) : List V → Hp → VK → Prop := fun xs H Q => ∃ (x c : V) (t u : Value) (b : Bool), xs = [x, c] ∧ ClsV c u ∧ TyY K H x t ∧ PySem.W.kitOne K t u = some b ∧ Q (.bl b) H
theorem call_isiY {X : Cx} : CallR X (.builtin "isinstance") (rIsiY X.K) := by
  intro pins s σ H xs us Q I r h
  obtain ⟨x, c, t, u, b, rfl, k, ty, e, q⟩ := h
  obtain ⟨u1, u2, rfl, r1, r2⟩ := vals2 r
  have e2 := k.eq r2
  subst e2
  obtain ⟨P, Z, p, hx⟩ := kit_ofY I r1 ty
  exact PySem.W.kia_one Z I.kIn p e hx fun tk => ⟨.bl b, H, I.tok tk, rfl, q⟩
theorem Vw.tyX {v : V} {d : PyData} (h : Vw T H F v d) : TyY T.K H v (.type (tyN d)) := by
  rcases h with h | ⟨a, rfl, h⟩
  · cases h with
    | non => exact .inl <| .base .non
    | bl b => exact .inl <| .base (.bl b)
    | int i => exact .inl <| .base (.int i)
    | str x => exact .inl <| .base (.str x)
    | lst f r s =>
      rcases r with r | ⟨o, r⟩
      · exact .inl <| .base (.lst r)
      · exact .inl <| .base (.frz r)
    | lstK r s =>
      obtain ⟨its, n, h1, _⟩ := r
      exact .inl <| .kList h1 rfl
    | tup r s =>
      rcases r with (r | ⟨o, r⟩) | ⟨o, its, n, r1, r2, _⟩
      · exact .inl <| .base (.tup r)
      · exact .inl <| .fTuple r
      · exact .inl <| .kTuple r1 r2
    | dct f r s => exact .inl <| .base (.dK r)
    | dcT f r e s => exact .inr ⟨_, _, rfl, r, e.ex.1, rfl⟩
  · cases d with
    | list ds => obtain ⟨vs, e, _⟩ := h; exact .inl <| .base (.lst e)
    | dict ds =>
      rcases h with ⟨vs, e, _⟩ | ⟨o, vs, e, q, _⟩
      · exact .inl <| .base (.dK e)
      · exact .inr ⟨_, _, rfl, e, q.ex.1, rfl⟩
    | none => exact h.elim
    | bool b => exact h.elim
    | int i => exact h.elim
    | str x => exact h.elim
    | tuple xs => exact h.elim
end
section
variable {X : Cx} {T : Tb} {W : WX} {e : Expr} {fe : EM} {p p2 pos : Pos}
/-- isinstance(e, c), c a built-in class -/
theorem se_isi {c : String} {cx : Str} (hK : X.K = T.K) (hg : L2.Gl X "isinstance") (hm : X.mg "isinstance" = none) (hgc : L2.Gl X cx) (hmc : X.mg cx = none) (hvc : bootBuiltins cx = some (.type c)) (he : SE X T W e fe) (hn : cx ≠ "__name__" := by decide) (hdb : (cx == ("__debug__" : Str)) = false := by decide)
    (hs : starEach [e, .Name cx p2] X.env = (false, eval e X.env) :: starEach [.Name cx p2] X.env := by rfl) (hpl : (backTo pos (starEach [.Name cx p2] X.env)).any (·.1) = false := by rfl) :
    SE X T W (.Call (.Name "isinstance" p) [e, .Name cx p2] [] pos) (op1M (isiD c) fe) := by
  have ha : PA X [e, .Name cx p2] (tCons (Tof T W (tlE T) fe) (tCons (tC (.ty c)) tNil)) := pa_cons he (pa_cons (pe_bltn (v := .ty c) hgc hmc hvc rfl hn hdb) pa_nil) hs
  refine pe_imp (pe_callB call_isiY hg hm (by decide +kernel) ha (by decide) (by decide) hs hpl) fun σ H Q h => ?_
  have h2 := op1 (r := fun x H Q => rIsiY T.K [x, .ty c] H Q) (g := isiD c) (fun x d z H F Q lv hx hg hq => by
    obtain ⟨b, h1, rfl⟩ := Option.map_eq_some_iff.mp (show (kitB (tyN d) c).map _ = some z from hg)
    exact ⟨x, .ty c, .type (tyN d), .type c, b, rfl, .ty c, hx.tyX, kit_ty h1, hq _ H F .refl (.bl _)⟩) h
  rw [hK]
  exact h2
end
end DL
namespace DL
open PySem L2 PyProof.Rows
section
variable {X : Cx} {pins : List (Addr × Obj)} {σ : L2.St} {H : Hp} {s : Shared} {F : Reg}
theorem ne_sys (I : L2.Inv X pins σ H s) (sm : X.base.get? sysModules ≠ none) {a : Addr} (h : H a ≠ none) : a ≠ sysModules := fun e => by
  subst e
  cases q : X.base.get? sysModules with
  | none => exact sm q
  | some o => exact h (I.bs _ _ q).2
theorem rd_there {a : Addr} {u : HO} (r : Rd H a u) : H a ≠ none := by
  rcases r with r | ⟨o, r⟩ <;> rw [r] <;> simp
/-- the object of a dict to be read -/
theorem rd_dict (I : L2.Inv X pins σ H s) {a : Addr} {ks : List (Key × V)} (r : Rd H a (.dK ks)) : ∃ vs o es ep, KV ks vs ∧ s.heap.get? a = some o ∧ o.cls = .type "dict" ∧ o.data = .dict es ep ∧ Pairs (mixKind X.prog X.w) es.toList vs := by
  rcases r with r | ⟨ob, r⟩
  · obtain ⟨_, _, vs, r1, o, es, ep, h1, h2, h3, _, h5, _⟩ := I.hok a _ r
    exact ⟨vs, o, es, ep, r1, h1, h2.1, h3, h5⟩
  · obtain ⟨_, _, _, vs, r1, o, es, ep, h1, h2, h3, _, h5, _⟩ := I.hok a _ r
    exact ⟨vs, o, es, ep, r1, h1, h2.1, h3, h5⟩
theorem keys_reads {h : Heap} : ∀ {k : List Int} {us : List Value}, Vals (k.map V.int) us → ReadsAll h us (k.map PyData.int) []
  | [], _, .nil => .nil
  | _ :: _, _, .cons r t => by obtain ⟨z, rfl⟩ := r; exact .cons (as := []) (bs := []) (.int _ z) (keys_reads t)
theorem tkey_reads (I : L2.Inv X pins σ H s) {q : Addr} {k : List Int} (e : SqT X.K H q (k.map V.int)) : Reads s.heap (.ref q) (kT k) [] := by
  obtain ⟨its, rv, ⟨o, e, c, n, dd⟩, _⟩ := I.tuple e
  exact .tuple e c dd (by simpa using keys_reads rv)
mutual
theorem DF.reads (I : L2.Inv X pins σ H s) (sm : X.base.get? sysModules ≠ none) : ∀ {v : V} {d : PyData} {u : Value}, DF X.K H F v d → L2.RelV v u → ∃ as, Reads s.heap u d as ∧ sysModules ∉ as
  | _, _, _, .non, r => by cases r; exact ⟨[], .none, by simp⟩
  | _, _, _, .bl b, r => by cases r; exact ⟨[], .bool b, by simp⟩
  | _, _, _, .int i, r => by obtain ⟨t, rfl⟩ := r; exact ⟨[], .int i t, by simp⟩
  | _, _, _, .str x, r => by obtain ⟨t, rfl⟩ := r; exact ⟨[], .str x t, by simp⟩
  | _, _, _, .lst f l q, r => by
    cases r
    obtain ⟨its, n, rv, e, _⟩ := isL_of I (.inl l)
    obtain ⟨as, h1, h2⟩ := DFs.reads I sm q rv
    exact ⟨_, .list e rfl rfl (by simpa using h1), by simp only [List.mem_cons, not_or]; exact ⟨Ne.symm (ne_sys I sm (rd_there l)), h2⟩⟩
  | _, _, _, .lstK l q, r => by
    cases r
    obtain ⟨its, n, rv, e, _⟩ := isL_of I (.inr l)
    obtain ⟨as, h1, h2⟩ := DFs.reads I sm q rv
    obtain ⟨_, _, _, _, _, ne⟩ := l
    exact ⟨_, .list e rfl rfl (by simpa using h1), by simp only [List.mem_cons, not_or]; exact ⟨Ne.symm ne, h2⟩⟩
  | _, _, _, .tup l q, r => by
    cases r
    obtain ⟨its, rv, ⟨o, e, c, n, dd⟩, _⟩ := I.tuple l
    obtain ⟨as, h1, h2⟩ := DFs.reads I sm q rv
    exact ⟨_, .tuple e c dd (by simpa using h1), h2⟩
  | _, _, _, .dct f l q, r => by
    cases r
    obtain ⟨vs, o, es, ep, r1, e, c, dd, pp⟩ := rd_dict I (.inl l)
    obtain ⟨as, bs, h1, h2, h3, h4⟩ := DFk.reads I sm q r1 pp
    exact ⟨_, .dict e c dd h1 h2, by simp only [List.cons_append, List.mem_cons, List.mem_append, not_or]; exact ⟨Ne.symm (ne_sys I sm (rd_there (.inl l))), h3, h4⟩⟩
  | _, _, _, @DF.dcT _ _ _ a o xs ds f l e q, r => by
    cases r
    obtain ⟨es, ep, dd, pp⟩ := e.es
    obtain ⟨as, bs, h1, h2, h3, h4⟩ := DFt.reads I sm q
    rw [← pp] at h1 h2
    exact ⟨_, .dict (I.hok a _ l).1 e.ex.1 dd h1 h2, by simp only [List.cons_append, List.mem_cons, List.mem_append, not_or]; exact ⟨fun z => by have := e.sm; rw [← z] at this; simp at this, h3, h4⟩⟩
theorem DFs.reads (I : L2.Inv X pins σ H s) (sm : X.base.get? sysModules ≠ none) : ∀ {vs : List V} {ds : List PyData} {us : List Value}, DFs X.K H F vs ds → Vals vs us → ∃ as, ReadsAll s.heap us ds as ∧ sysModules ∉ as
  | _, _, _, .nil, r => by cases r; exact ⟨[], .nil, by simp⟩
  | _, _, _, .cons a b, r => by
    cases r with
    | cons r1 r2 =>
      obtain ⟨as, h1, h2⟩ := DF.reads I sm a r1
      obtain ⟨bs, h3, h4⟩ := DFs.reads I sm b r2
      exact ⟨_, .cons h1 h3, by simp only [List.mem_append, not_or]; exact ⟨h2, h4⟩⟩
theorem DFk.reads (I : L2.Inv X pins σ H s) (sm : X.base.get? sysModules ≠ none) : ∀ {ks : List (Key × V)} {ds : List (PyData × PyData)} {vs : List (Key × Value)} {es : List DictEntry}, DFk X.K H F ks ds → KV ks vs → Pairs (mixKind X.prog X.w) es vs →
    ∃ as bs, ReadsAll s.heap (es.map (·.key)) (ds.map (·.1)) as ∧ ReadsAll s.heap (es.map (·.val)) (ds.map (·.2)) bs ∧ sysModules ∉ as ∧ sysModules ∉ bs
  | _, _, _, _, .nil, r, p => by cases r; cases p; exact ⟨[], [], .nil, .nil, by simp, by simp⟩
  | _, _, _, _, @DFk.cons _ _ _ k v d ks ds a b, r, p => by
    cases r with
    | @cons _ kv _ vs r1 r2 =>
      cases p with
      | @cons e _ es _ p1 p2 p3 =>
        obtain ⟨as, h1, h2⟩ := DF.reads I sm a r1.2
        obtain ⟨cs, es', h3, h4, h5, h6⟩ := DFk.reads I sm b r2 p3
        have hk : Reads s.heap e.key (kD k) [] := by
          have hkk : k = kv.1 := r1.1
          rcases keyIs_shape (show keyIs _ _ = true from p1) with ⟨i, t, e1, e2⟩ | ⟨x, t, e1, e2⟩
          · rw [e2, hkk, e1]; exact .int i t
          · rw [e2, hkk, e1]; exact .str x t
        refine ⟨_, _, .cons hk h3, .cons (p2 ▸ h1) h4, by simpa using h5, by simp only [List.mem_append, not_or]; exact ⟨h2, h6⟩⟩
theorem DFt.reads (I : L2.Inv X pins σ H s) (sm : X.base.get? sysModules ≠ none) : ∀ {xs : List Ent} {ds : List (PyData × PyData)}, DFt X.K H F xs ds →
    ∃ as bs, ReadsAll s.heap ((xs.map (entryOfKey (tupleKind (mixKind X.prog X.w)))).map (·.key)) (ds.map (·.1)) as ∧ ReadsAll s.heap ((xs.map (entryOfKey (tupleKind (mixKind X.prog X.w)))).map (·.val)) (ds.map (·.2)) bs ∧ sysModules ∉ as ∧ sysModules ∉ bs
  | _, _, .nil => ⟨[], [], .nil, .nil, by simp, by simp⟩
  | _, _, .cons q r a b => by
    obtain ⟨as, h1, h2⟩ := DF.reads I sm a r
    obtain ⟨cs, es', h3, h4, h5, h6⟩ := DFt.reads I sm b
    exact ⟨_, _, .cons (tkey_reads I q) h3, .cons h1 h4, by simpa using h5, by simp only [List.mem_append, not_or]; exact ⟨h2, h6⟩⟩
end
theorem Vw.reads {T : Tb} {v : V} {d : PyData} {u : Value} (hK : X.K = T.K) (I : L2.Inv X pins σ H s) (sm : X.base.get? sysModules ≠ none) (h : Vw T H F v d) (r : L2.RelV v u) : ∃ as, Reads s.heap u d as ∧ sysModules ∉ as := by
  rcases h with h | ⟨a, rfl, h⟩
  · rw [← hK] at h
    exact h.reads I sm r
  · cases d with
    | list ds =>
      obtain ⟨vs, e, q⟩ := h
      rw [← hK] at q
      exact DF.reads (F := fun b => F b ∨ b = a) I sm (.lst (.inr rfl) (.inl e) (q.mono .refl fun _ h => .inl h)) r
    | dict ds =>
      rcases h with ⟨vs, e, q⟩ | ⟨o, vs, e, x, q⟩
      · rw [← hK] at q
        exact DF.reads (F := fun b => F b ∨ b = a) I sm (.dct (.inr rfl) e (q.mono .refl fun _ h => .inl h)) r
      · rw [← hK] at q
        exact DF.reads (F := fun b => F b ∨ b = a) I sm (.dcT (.inr rfl) e x (q.mono .refl fun _ h => .inl h)) r
    | none => exact h.elim
    | bool b => exact h.elim
    | int i => exact h.elim
    | str x => exact h.elim
    | tuple xs => exact h.elim
end
def reprOk (d : PyData) : Bool := d.showable && decide (d.shown.length ≤ lim) && decide (d.depth ≤ 60)
def reprD (d : PyData) : Option R := if reprOk d = true then some (.dat (.str d.shown)) else none
def rRepr (X : Cx) (T : Tb) : List V → Hp → VK → Prop := fun vs H Q => ∃ v d F, vs = [v] ∧ Vw T H F v d ∧ reprOk d = true ∧ Q (.str d.shown) H
theorem call_reprX {X : Cx} {T : Tb} {W : WX} {n : Nat} (c : Cxt X T W n) : CallR X (.builtin "repr") (rRepr X T) := by
  intro pins s σ H vs us Q I r h
  obtain ⟨v, d, F, rfl, hv, ok, q⟩ := h
  obtain ⟨u, rfl, ru⟩ := vals1 r
  unfold reprOk at ok
  simp only [Bool.and_eq_true, decide_eq_true_eq] at ok
  obtain ⟨⟨o1, o2⟩, o3⟩ := ok
  obtain ⟨as, rd, ns⟩ := hv.reads c.hK I c.sm ru
  have big : ∀ a, u = .ref a → wpAny (model X.prog X.w) X.A (call (.builtin "repr") [u]) (EP X pins σ Q) X.xe s := fun a e => by
    subst e
    refine PySem.repr_of_reads' rd o1 (fun _ => ns) c.gd (by have := c.room.units; omega) (fun _ _ h => h) (fun h' t tk hk => ?_) (lm o2)
    exact ⟨.str _, H, I.kept hk, ⟨_, rfl⟩, q⟩
  cases rd with
  | none => exact PySem.P.repr_of_none ⟨.str _, H, I.tok _, ⟨_, rfl⟩, by rw [show ("None" : Str) = PyData.shown .none by simp [PyData.shown]]; exact q⟩
  | bool b => exact PySem.P.repr_of_bool ⟨.str _, H, I.tok _, ⟨_, rfl⟩, by rw [show (if b then ("True" : Str) else "False") = PyData.shown (.bool b) by simp [PyData.shown]]; exact q⟩
  | int i t => exact PySem.P.repr_of_int (by simpa [PyData.showable] using o1) ⟨.str _, H, I.tok _, ⟨_, rfl⟩, by rw [show (toString i : Str) = PyData.shown (.int i) by simp [PyData.shown]]; exact q⟩
  | str x t => exact PySem.P.repr_of_str ⟨.str _, H, I.tok _, ⟨_, rfl⟩, by rw [show reprText x = PyData.shown (.str x) by simp [PyData.shown]]; exact q⟩ (by have := lm o2; simpa [PyData.shown] using this)
  | list a b c d => exact big _ rfl
  | tuple a b c d => exact big _ rfl
  | dict a b c d e => exact big _ rfl
theorem does_repr {X : Cx} {T : Tb} : DoesN T (rRepr X T) (on1 reprD) := does1_on fun x d z H F Q lv hx hg hq => by
  unfold reprD at hg
  split at hg
  · rename_i hz
    cases hg
    exact ⟨x, d, F, rfl, hx, hz, hq _ H F .refl (.str _)⟩
  · cases hg
def cutD (xs : List PyData) (lo hi : Option Int) : List PyData := (xs.drop (HT.sIx xs.length 0 lo)).take (HT.sIx xs.length xs.length hi - HT.sIx xs.length 0 lo)
def slD (d : PyData) (lo hi : Option Int) : Option R := match d with
  | .list ds => some (.own (.list (cutD ds lo hi)))
  | .tuple ds => some (.dat (.tuple (cutD ds lo hi)))
  | .str x => if x.length ≤ lim then some (.dat (.str (cutS x lo hi))) else none
  | _ => none
/-- a part of a slice -/
def ptM (o : Option EM) : Rho → Option (Oe (Option Int)) := fun ρ => match o with
  | none => some (.ok none ρ)
  | some f => bindO (f ρ) fun r ρ1 => match r with
    | .dat (.int i) => some (.ok (some i) ρ1)
    | _ => none
def slM (fe : EM) (lo hi : Option EM) : EM := fun ρ => bindO (fe ρ) fun r ρ1 => bindO (ptM lo ρ1) fun a ρ2 => bindO (ptM hi ρ2) fun b ρ3 => match val ρ3 r with
  | some d => (slD d a b).map fun z => .ok z ρ3
  | none => none
def tlO : Tell (Option Int) (Option Int) := fun _ _ _ _ _ b c => b = c
def SO (X : Cx) (T : Tb) (W : WX) (e : Option Expr) (f : Option EM) : Prop := PO X e (Tof T W tlO (ptM f))
section
variable {X : Cx} {T : Tb} {W : WX} {e : Expr} {f fe : EM} {lo hi : Option Expr} {flo fhi : Option EM} {p2 pos : Pos}
theorem po_imp {e : Option Expr} {t t' : TO} (h : PO X e t) (i : ∀ σ H Q, t' σ H Q → t σ H Q) : PO X e t' := ⟨fun pins s σ H Q I q => h.run pins s σ H Q I (i σ H Q q)⟩
theorem so_none : SO X T W none none := po_imp po_none fun σ H Q ⟨ρ, F, O, E, P⟩ => P none H F O .refl E rfl
theorem so_some (h : SE X T W e f) : SO X T W (some e) (some f) := po_imp (po_some h) fun σ H Q ⟨ρ, F, O, E, P⟩ => by
  refine stp .refl E P fun v H1 r ρ1 F1 O1 x1 y1 E1 r1 P1 => ?_
  split at P1
  · exact ⟨_, int_of r1, P1 _ H1 F1 O1 y1 E1 rfl⟩
  · exact P1.elim
def rSlX (K : PySem.W.Frag) : V → Option Int → Option Int → Hp → VK → Prop := fun x lo hi H Q => rSlL K x lo hi H Q ∨ (rSlA K x lo hi H Q ∨ rSlS x lo hi H Q)
theorem sl_X : SlR X (rSlX X.K) := sl_list.or (sl_tupA.or sl_str)
theorem cut_dfs {K : PySem.W.Frag} {H : Hp} {F : Reg} {vs : List V} {ds : List PyData} (s : DFs K H F vs ds) (lo hi : Option Int) : DFs K H F (cutV vs lo hi) (cutD ds lo hi) := by
  unfold cutV cutD
  rw [s.length]
  exact (s.drop _).take _
theorem cut_all {xs : List PyData} {lo hi : Option Int} (h : HT.sIx xs.length 0 lo = 0 ∧ HT.sIx xs.length xs.length hi = xs.length) : cutD xs lo hi = xs := by
  unfold cutD
  rw [h.1, h.2]
  simp
theorem se_slice (hK : X.K = T.K) (he : SE X T W e fe) (hl : SO X T W lo flo) (hh : SO X T W hi fhi) : SE X T W (.Subscript e (.Slice lo hi none p2) pos) (slM fe flo fhi) := by
  refine pe_imp (pe_slice sl_X he hl hh) fun σ H Q ⟨ρ, F, O, E, P⟩ => ?_
  rw [hK]
  refine stp .refl E P fun v H1 r ρ1 F1 O1 x1 y1 E1 r1 P1 => ?_
  refine stp y1 E1 P1 fun a H2 a' ρ2 F2 O2 x2 y2 E2 r2 P2 => ?_
  refine stp y2 E2 P2 fun b H3 b' ρ3 F3 O3 x3 y3 E3 r3 P3 => ?_
  have e2 : a = a' := r2
  have e3 : b = b' := r3
  subst e2 e3
  have r1' : ResR T H H3 F3 O3 σ v r := ResR.mono E2 x3 (ResR.mono E1 x2 r1)
  cases q : val ρ3 r with
  | none => rw [q] at P3; exact P3.elim
  | some d =>
    rw [q] at P3
    dsimp only at P3
    have hv := val_vw E3 r1' q
    cases d with
    | list ds =>
      obtain ⟨l, vs, rfl, h1, s1⟩ := hv.lst
      exact .inl ⟨l, vs, rfl, h1.sq, fun p hp => fin_op y3 E3 P3 (.laid hp) (resN_lst hp (fun q => E3.lv p q hp) (cut_dfs s1 a b))⟩
    | tuple ds =>
      obtain ⟨l, vs, rfl, h1, s1⟩ := hv.tup
      refine .inr (.inl ⟨l, vs, rfl, h1, fun z => ?_, fun _ p hp => fin_op y3 E3 P3 (.laid hp) (resN_tup hp (cut_dfs s1 a b))⟩)
      rw [s1.length] at z
      exact fin_op y3 E3 P3 .refl (show DF T.K H3 F3 (.ref l) (.tuple (cutD ds a b)) from by rw [cut_all z]; exact .tup h1 s1)
    | str x =>
      have P4 : Post T W (tlE T) σ H F O Q ((if x.length ≤ lim then some (R.dat (.str (cutS x a b))) else none).map fun z => Oe.ok z ρ3) := P3
      split at P4
      · rename_i hz
        exact .inr (.inr ⟨x, hv.str, lm hz, fin_op y3 E3 P4 .refl (.str _)⟩)
      · exact P4.elim
    | none => exact P3.elim
    | bool b => exact P3.elim
    | int i => exact P3.elim
    | dict xs => exact P3.elim
end
end DL
namespace DL
open PySem L2 PyProof.Rows
/-- the defs that make lambdas: their code objects and tables, as the top has left them -/
structure TabsAt (K : PySem.W.Frag) (h : Heap) (mg : Str → Option Value) (cs : List (Addr × Addr)) : Prop where
  tab : ∀ p ∈ cs, h.get? p.2 = some { cls := .none, data := .fields #[] }
  out : ∀ p ∈ cs, K.lookup p.2 = none
  code : ∀ p ∈ cs, PySem.W.CodeHd h p.1 p.2
  bm : ∃ (bm : Addr) (ob : Obj), mg "__builtins__" = some (.ref bm) ∧ bm ≠ builtinsNs ∧ h.get? bm = some ob ∧ ob.cls = .type "module" ∧ ob.dict = some builtinsNs ∧ ob.data = .plain
def isTab (cs : List (Addr × Addr)) (b : Addr) : Prop := ∃ p ∈ cs, p.2 = b
instance (cs : List (Addr × Addr)) (b : Addr) : Decidable (isTab cs b) := by unfold isTab; infer_instance
section
variable {K : PySem.W.Frag} {h : Heap} {mg : Str → Option Value} {cs : List (Addr × Addr)}
theorem TabsAt.at (t : TabsAt K h mg cs) {b : Addr} (e : isTab cs b) : h.get? b = some { cls := .none, data := .fields #[] } := by
  obtain ⟨p, hp, rfl⟩ := e
  exact t.tab p hp
theorem TabsAt.not (t : TabsAt K h mg cs) {b : Addr} {o : Obj} (e : h.get? b = some o) (n : o.data ≠ .fields #[]) : ¬ isTab cs b := fun z => by
  rw [t.at z] at e
  cases e
  exact n rfl
/-- the tables over the base that hides what is tracked -/
theorem TabsAt.base (t : TabsAt K h mg cs) (ns : h.Ns mainGlobals mg) {g : Heap} (gt : ∀ b o, h.get? b = some o → ¬ isTab cs b → (∀ us n, o.data ≠ .seq us n) → g.get? b = some o) : ∀ p ∈ cs, LamX.TabB g mg p.1 p.2 := fun p hp => by
  have hp2 := t.tab p hp
  refine ⟨?_, ?_, fun z => ?_⟩
  · obtain ⟨o, us, file, tf, flags, tg, inF, text, tt, e1, r1, r2, r⟩ := t.code p hp
    refine ⟨o, us, file, tf, flags, tg, inF, text, tt, gt _ _ e1 (t.not e1 fun z => ?_) (fun vs n z => ?_), r1, r2, r⟩
    · rw [r2] at z
      cases z
      simp at r
    · rw [r2] at z
      cases z
  · obtain ⟨b, ob, b1, b2, b3, b4, b5, b6⟩ := t.bm
    refine ⟨b, ob, b1, b2, fun q => ?_, fun q => ?_, gt _ _ b3 (t.not b3 fun z => by rw [b6] at z; cases z) (fun vs n z => by rw [b6] at z; cases z), b4, b5, b6⟩
    · obtain ⟨o, es, ep, e, hd, _⟩ := ns
      rw [q, e] at b3
      cases b3
      rw [hd] at b6
      cases b6
    · rw [q, hp2] at b3
      cases b3
      cases b6
  · obtain ⟨o, es, ep, e, hd, _⟩ := ns
    rw [z, hp2] at e
    cases e
    cases hd
end
/-- the law's call at the heap that the top has left: from the law's promise at every base -/
theorem law_g {P : Program} {w : World} {T : Tb} {mg mb : Str → Option Value} {k : Nat} {fa a : Addr} {fd : FuncData} {x : Str} {sem : Sem} {s1 : Shared} {vs : List Value} {ns : List Int} {cs : List (Addr × Addr)} (KX : T.K.In s1.heap) (gl : s1.heap.Ns mainGlobals mg) (bl : s1.heap.Ns builtinsNs mb)
    (bb : ∀ x : Str, x ≠ "__name__" → mb x = bootBuiltins x) (nl : s1.heap.NoLimit) (sy : ∃ mm, s1.heap.Ns sysModules mm) (gn : s1.gens = #[]) (ha : s1.heap.get? a = some { cls := .type "list", data := .seq vs.toArray }) (hi : IntsAre vs ns) (hl : ns.length ≤ lim) (hr : Room k callerA)
    (tc : TabsAt T.K s1.heap mg cs) (htb : ∀ q ∈ T.tb, isTab cs q.1)
    (G : ∀ base : Heap, T.K.In base → base.Ns mainGlobals mg → base.get? sysModules ≠ none → (∀ p ∈ cs, LamX.TabB base mg p.1 p.2) → FnG P w T.K mg base k fa fd [x] (spOf T 1 sem)) (hb : ∀ (s : Shared) (u : Value), BindsTo s fd ⟨[u], []⟩ [(x, u)])
    (hs : ∃ os, sem [.dat (.list (ns.map .int))] = some (.ok (.dat (.bool true)) os)) :
    codeAny (model P w) callerA (.call (.ref fa) ⟨[.ref a], []⟩) (fun r s' => r = .ok (.ret (.bool true)) ∧ OldK s1.heap s'.heap ∧ s'.os = s1.os ∧ AllBare s'.gens) s1 := by
  have rv := vals_ints hi
  have aT : ¬ isTab cs a := tc.not ha fun z => by cases z
  have nds : ∀ {b : Addr} {m : Str → Option Value}, s1.heap.Ns b m → b ≠ a := fun {b m} ⟨o, es, ep, e, dd, _⟩ z => by
    subst z
    rw [ha] at e
    cases e
    exact absurd dd (by intro q; cases q)
  have ndt : ∀ {b : Addr} {m : Str → Option Value}, s1.heap.Ns b m → ¬ isTab cs b := fun {b m} ⟨o, es, ep, e, dd, _⟩ => tc.not e fun z => by rw [dd] at z; cases z
  obtain ⟨mm, sy⟩ := sy
  -- over any abstract heap that tracks the tables and at most the script
  have core : ∀ (H : Hp) (F : Reg), (∀ b, H b ≠ none → ¬ isTab cs b → b = a ∧ T.K.lookup a = none ∧ ∃ o xs, H b = some (.frz o (.lst xs))) → (∀ b, isTab cs b → H b = some (.tbl #[])) → HOk P w H s1.heap → (∀ b, F b → H b ≠ none) → DF T.K H F (.ref a) (.list (ns.map .int)) →
      codeAny (model P w) callerA (.call (.ref fa) ⟨[.ref a], []⟩) (fun r s' => r = .ok (.ret (.bool true)) ∧ OldK s1.heap s'.heap ∧ s'.os = s1.os ∧ AllBare s'.gens) s1 := by
    intro H F hH hT hok hF dd
    have free : ∀ {b : Addr}, b ≠ a → ¬ isTab cs b → H b = none := fun {b} n nt => by
      cases q : H b with
      | none => rfl
      | some o => exact absurd (hH b (by rw [q]; simp) nt).1 n
    have ns' : ∀ {b : Addr} {m : Str → Option Value}, s1.heap.Ns b m → (hidT s1.heap H).Ns b m := fun {b m} z => by
      have n := nds z
      have n2 := ndt z
      obtain ⟨o, es, ep, e, r⟩ := z
      exact ⟨o, es, ep, hidT_get e (free n n2), r⟩
    have kb : T.K.In (hidT s1.heap H) := fun b o e => hidT_get (KX b o e) (by
      cases q : H b with
      | none => rfl
      | some u =>
        by_cases ht : isTab cs b
        · obtain ⟨p, hp, rfl⟩ := ht
          rw [tc.out p hp] at e; cases e
        · obtain ⟨rfl, z, _⟩ := hH b (by rw [q]; simp) ht
          rw [z] at e; cases e)
    have md : Mod T.K mg (hidT s1.heap H) := ⟨kb, ns' gl, ⟨mb, ns' bl, bb⟩, by
      obtain ⟨mc, h1, h2⟩ := nl
      exact ⟨mc, ns' h1, h2⟩⟩
    have sm : (hidT s1.heap H).get? sysModules ≠ none := by
      obtain ⟨o, es, ep, e, _⟩ := ns' sy
      rw [e]; simp
    have tB : ∀ p ∈ cs, LamX.TabB (hidT s1.heap H) mg p.1 p.2 := tc.base gl fun b o e nt nsq => hidT_get e (free (fun z => by rw [z, ha] at e; cases e; exact nsq _ _ rfl) nt)
    have e0 : Env0 P w T.K mg (hidT s1.heap H) callerA [] s1 H := ⟨rfl, md, fun b o e => of_hidT e, Nat.le_of_eq (hidT_size _ _), trivial, fun b z => absurd (show b ∈ ([] : List Addr) from z) (by simp), hok, .of_eq gn⟩
    obtain ⟨os, hs⟩ := hs
    have sp : spOf T 1 sem [.ref a] H (fun v _ => v = .bl true) (fun _ _ _ => False) := by
      refine ⟨[.dat (.list (ns.map .int))], F, fun _ => [], rfl, ⟨rfl, fun i r e => ?_, (fun _ _ q => absurd q List.not_mem_nil), (fun _ _ _ q => absurd q List.not_mem_nil), (fun _ _ q => absurd q List.not_mem_nil), hF, fun q hq => .nil (hT _ (htb q hq))⟩, ?_⟩
      · cases i with
        | zero => simp at e; subst e; exact ⟨.ref a, rfl, rfl, dd⟩
        | succ i => simp at e
      · rw [hs]
        exact fun v H' F' O' _ _ r => bl_of r
    refine codeAny_mono ((G _ kb (ns' gl) sm tB).run callerA [] s1 H ⟨[.ref a], []⟩ [.ref a] [.ref a] _ _ rfl hr e0 (hb s1 (.ref a)) (.cons rfl .nil) sp) ?_
    intro r s' h
    cases r with
    | error e =>
      obtain ⟨_, _, _, _, _, _, _, _, _, _, _, _, z⟩ := h
      exact z.elim
    | ok fl =>
      cases fl with
      | next => exact h.elim
      | brk => exact h.elim
      | cont => exact h.elim
      | ret u =>
        obtain ⟨v, H', os', bare, un, hok', rr, qv⟩ := h
        subst qv
        obtain rfl : u = Value.bool true := rr
        have kp : ∀ b o, ¬ isTab cs b → s1.heap.get? b = some o → s'.heap.get? b = some o := fun b o nt e => by
          by_cases n : H b = none
          · exact un.keep b o e n (by intro z; exact absurd (show b ∈ ([] : List Addr) from z) (by simp)) (by simp)
          · obtain ⟨_, _, ob, xs, z⟩ := hH b n nt
            obtain ⟨e1, _⟩ := hok b _ z
            obtain ⟨e2, _⟩ := hok' b _ (un.frzs b ob _ z)
            rw [e] at e1
            cases e1
            exact e2
        have gw : ∀ b, isTab cs b → ∃ us : Array Value, s'.heap.get? b = some { cls := .none, data := .fields us } := fun b ht => by
          obtain ⟨us, z⟩ := un.tbls b #[] (hT b ht)
          exact ⟨_, hok' b _ z⟩
        refine ⟨rfl, ⟨fun b o e => ?_, fun b o e => ?_⟩, os', bare⟩
        · by_cases ht : isTab cs b
          · obtain ⟨us, hu⟩ := gw b ht
            have e' := e
            rw [tc.at ht] at e'
            cases e'
            obtain ⟨p, hp, rfl⟩ := ht
            exact .inr (.inl ⟨((tc.code p hp).tab (tc.tab p hp)).isCodeTable, rfl, #[], us, rfl, by simpa using hu⟩)
          · exact .inl (kp b o ht e)
        · by_cases ht : isTab cs b
          · obtain ⟨us, hu⟩ := gw b ht
            exact ⟨_, hu⟩
          · exact ⟨o, kp b o ht e⟩
  have lv := hi.length
  cases hk : T.K.lookup a with
  | some o =>
    have e := KX a o hk
    rw [ha] at e
    cases e
    refine core (fun b => if isTab cs b then some (.tbl #[]) else none) (fun _ => False) (fun b z nt => absurd (if_neg nt) z) (fun b ht => if_pos ht) (fun b u z => ?_) (fun _ z => z.elim) (.lstK ⟨vs.toArray, _, hk, ?_, by simpa using rv, ?_⟩ (DFs.of_ints ns))
    · by_cases ht : isTab cs b
      · have z' := (if_pos ht).symm.trans z
        cases z'
        exact tc.at ht
      · have z' := (if_neg ht).symm.trans z
        cases z'
    · rw [List.size_toArray, lv]
      exact lm hl
    · exact Ne.symm (nds sy)
  | none =>
    have h1 : (fun b => if b = a then some (HO.frz { cls := .type "list", data := .seq vs.toArray } (.lst (ns.map V.int))) else if isTab cs b then some (.tbl #[]) else none : Hp) a = some (.frz { cls := .type "list", data := .seq vs.toArray } (.lst (ns.map V.int))) := if_pos rfl
    refine core (fun b => if b = a then some (.frz { cls := .type "list", data := .seq vs.toArray } (.lst (ns.map V.int))) else if isTab cs b then some (.tbl #[]) else none) (fun b => b = a) (fun b z nt => ?_) (fun b ht => ?_) (fun b u z => ?_) (fun b z => ?_) (.lst rfl (.inr ⟨_, h1⟩) (DFs.of_ints ns))
    · by_cases e : b = a
      · subst e
        exact ⟨rfl, hk, _, _, h1⟩
      · exact absurd ((if_neg e).trans (if_neg nt)) z
    · exact (if_neg (show ¬ b = a from fun z => aT (z ▸ ht))).trans (if_pos ht)
    · by_cases e : b = a
      · subst e
        have z' := h1.symm.trans z
        cases z'
        exact ⟨ha, by rw [List.length_map]; exact lm hl, vs, _, rv, ha⟩
      · by_cases ht : isTab cs b
        · have z' := ((if_neg e).trans (if_pos ht)).symm.trans z
          cases z'
          exact tc.at ht
        · have z' := ((if_neg e).trans (if_neg ht)).symm.trans z
          cases z'
    · rw [z, if_pos rfl]
      simp
end DL
namespace DL
open PySem L2 PyProof.Rows
/-- the names by slot and the scope -/
structure At (X : Cx) (N : List Str) (sc : Scope) : Prop where
  hN : X.N = N
  hs : X.env.scope = sc
def visB (sc : Scope) (x : Str) : Bool := match sc.names.lookup x with
  | some .local => true
  | some .cell => true
  | some .free => true
  | _ => false
def locB (sc : Scope) (x : Str) : Bool := match sc.names.lookup x with
  | some .local => true
  | some .cell => true
  | _ => false
def lclB (sc : Scope) (x : Str) : Bool := match sc.names.lookup x with
  | some .local => true
  | _ => false
def glB (sc : Scope) (x : Str) : Bool := match sc.names.lookup x with
  | some .globalImplicit => true
  | _ => false
theorem visB_ok {sc : Scope} {x : Str} (h : visB sc x = true) : Vis sc x := by
  unfold visB at h
  split at h
  · exact .inl (by assumption)
  · exact .inr (.inl (by assumption))
  · exact .inr (.inr (by assumption))
  · cases h
theorem locB_ok {sc : Scope} {x : Str} (h : locB sc x = true) : Loc sc x := by
  unfold locB at h
  split at h
  · exact .inl (by assumption)
  · exact .inr (by assumption)
  · cases h
theorem lclB_ok {sc : Scope} {x : Str} (h : lclB sc x = true) : sc.names.lookup x = some .local := by
  unfold lclB at h
  split at h
  · assumption
  · cases h
theorem glB_ok {sc : Scope} {x : Str} (h : glB sc x = true) : sc.names.lookup x = some .globalImplicit := by
  unfold glB at h
  split at h
  · assumption
  · cases h
/-- a slot's name is seen -/
def nmB (N : List Str) (sc : Scope) (i : Nat) (x : Str) : Bool := decide (N[i]? = some x) && visB sc x && !(x == ("__debug__" : Str)) && !(x == ("__classdict__" : Str))
def tgB (N : List Str) (sc : Scope) (i : Nat) (x : Str) : Bool := decide (N[i]? = some x) && locB sc x
def gnB (sc : Scope) (x : Str) : Bool := glB sc x && !(x == ("__debug__" : Str)) && !decide (x = "__name__")
section
variable {X : Cx} {T : Tb} {W : WX} {N : List Str} {sc : Scope} {φ : Fm} {pos p : Pos} {x : Str} {i : Nat}
theorem At.gl (a : At X N sc) (h : gnB sc x = true) : L2.Gl X x ∧ (x == ("__debug__" : Str)) = false ∧ x ≠ "__name__" := by
  unfold gnB at h
  simp only [Bool.and_eq_true, Bool.not_eq_true', decide_eq_false_iff_not] at h
  refine ⟨?_, h.1.2, h.2⟩
  show X.env.scope.names.lookup x = _
  rw [a.hs]
  exact glB_ok h.1.1
theorem se_n (a : At X N sc) (i : Nat) (h : nmB N sc i x = true) : SE X T W (.Name x pos) (nmM i) := by
  unfold nmB at h
  simp only [Bool.and_eq_true, decide_eq_true_eq, Bool.not_eq_true'] at h
  exact se_nm i (by rw [a.hN]; exact h.1.1.1) (by rw [a.hs]; exact visB_ok h.1.1.2) h.1.2 h.2
theorem pe_n (a : At X N sc) (i : Nat) (h : nmB N sc i x = true) : PE X (.Name x pos) (tVar i) := by
  unfold nmB at h
  simp only [Bool.and_eq_true, decide_eq_true_eq, Bool.not_eq_true'] at h
  exact pe_var (by rw [a.hN]; exact h.1.1.1) (by rw [a.hs]; exact visB_ok h.1.1.2) h.1.2 h.2
theorem sg_n {pr : Nat → Bool} (a : At X N sc) (nd : X.N.Nodup) (fn : X.fn x = true ∨ sc.names.lookup x = some .local) (i : Nat) (h : tgB N sc i x = true) (hp : pr i = false) : SG X T pr (.Name x pos) (gnM i) := by
  unfold tgB at h
  simp only [Bool.and_eq_true, decide_eq_true_eq] at h
  exact sg_nm hp nd (by rw [a.hN]; exact h.1) (by rw [a.hs]; exact locB_ok h.2) (by rw [a.hs]; exact fn)
theorem ss_a {e : Expr} {fe : EM} {pos' : Pos} (a : At X N sc) (nd : X.N.Nodup) (fn : ∀ x, X.fn x = true) (i : Nat) (h : tgB N sc i x = true) (hp : φ.pr i = false) (he : SE X T W e fe) (hs : swapsWith e (some (.Name x pos')) pos.line X.env = pure false := by rfl) : SS X T W φ (.Assign [.Name x pos'] e pos) (asgM i fe) := by
  unfold tgB at h
  simp only [Bool.and_eq_true, decide_eq_true_eq] at h
  exact ss_asg hp nd (by rw [a.hN]; exact h.1) (by rw [a.hs]; exact locB_ok h.2) he hs (.inl (fn x))
/-- the block of a comprehension -/
theorem At.blk (a : At X N sc) (s : Shared) (H : Hp) (scope : Scope) (cl : List (Str × Addr)) (C : Addr) (fp : List Addr) : At (X.blk s H scope (compEnvC scope cl C X.env) fp) N (relS scope sc) := by
  refine ⟨a.hN, ?_⟩
  show relabel scope X.env = _
  rw [← a.hs]
  rfl
theorem At.blkOk {scope : Scope} {own : List (Str × Nat)} (a : At X N sc) (h : blkC N sc scope own = true) : BlkOk X.N X.env.scope scope own := by
  rw [a.hN, a.hs]
  exact blkOk_by h
/-- a built-in by its name -/
theorem se_b {id : String} {r : List V → Hp → VK → Prop} {g : List PyData → Option R} {f : AM} {e : Expr} {es : List Expr} (a : At X N sc) (hx : gnB sc x = true) (hc : CallR X (.builtin id) r) (dr : DoesN T r g) (hm : X.mg x = none) (hv : bootBuiltins x = some (.builtin id)) (ha : SA X T W (e :: es) f)
    (he : starEach (e :: es) X.env = (false, eval e X.env) :: starEach es X.env := by rfl) (hpl : (backTo pos (starEach es X.env)).any (·.1) = false := by rfl) :
    SE X T W (.Call (.Name x p) (e :: es) [] pos) (opnM g f) := se_callB hc dr (a.gl hx).1 hm hv ha (a.gl hx).2.2 (a.gl hx).2.1 he hpl
theorem se_t {id : String} {r : List V → Hp → VK → Prop} {g : List PyData → Option R} {f : AM} {e : Expr} {es : List Expr} (a : At X N sc) (hx : gnB sc x = true) (hc : CallR X (.type id) r) (dr : DoesN T r g) (hm : X.mg x = none) (hv : bootBuiltins x = some (.type id)) (ha : SA X T W (e :: es) f)
    (he : starEach (e :: es) X.env = (false, eval e X.env) :: starEach es X.env := by rfl) (hpl : (backTo pos (starEach es X.env)).any (·.1) = false := by rfl) :
    SE X T W (.Call (.Name x p) (e :: es) [] pos) (opnM g f) := se_callTy hc dr (a.gl hx).1 hm hv ha (a.gl hx).2.2 (a.gl hx).2.1 he hpl
theorem se_f {k n m : Nat} {sem : Sem} {f : AM} {e : Expr} {es : List Expr} (a : At X N sc) (hx : gnB sc x = true) (c : Cxt X T W m) (h : FnE X.prog X.w X.mg X.base T x k n sem) (hl : ∀ args o, sem args = some o → args.length = n) (hk : k ≤ m) (ha : SA X T W (e :: es) f)
    (he : starEach (e :: es) X.env = (false, eval e X.env) :: starEach es X.env := by rfl) (hpl : (backTo pos (starEach es X.env)).any (·.1) = false := by rfl) : SE X T W (.Call (.Name x p) (e :: es) [] pos) (callM sem f) :=
  se_call h c hk (a.gl hx).1 ha hl (a.gl hx).2.1 he hpl
theorem se_g {v : V} {d : PyData} (a : At X N sc) (hx : gnB sc x = true) (h : ∃ u v, X.mg x = some u ∧ L2.RelV v u ∧ ∀ H F, DF T.K H F v d) : SE X T W (.Name x pos) (cM d) := by
  obtain ⟨u, v, h1, h2, h3⟩ := h
  exact se_glob (a.gl hx).1 h1 h2 h3 (a.gl hx).2.1
theorem se_is {c : String} {cx : Str} {e : Expr} {fe : EM} {p2 : Pos} (a : At X N sc) (hK : X.K = T.K) (h1 : gnB sc "isinstance" = true) (hm : X.mg "isinstance" = none) (h2 : gnB sc cx = true) (hmc : X.mg cx = none) (hvc : bootBuiltins cx = some (.type c)) (he : SE X T W e fe)
    (hs : starEach [e, .Name cx p2] X.env = (false, eval e X.env) :: starEach [.Name cx p2] X.env := by rfl) (hpl : (backTo pos (starEach [.Name cx p2] X.env)).any (·.1) = false := by rfl) :
    SE X T W (.Call (.Name "isinstance" p) [e, .Name cx p2] [] pos) (op1M (isiD c) fe) := se_isi hK (a.gl h1).1 hm (a.gl h2).1 hmc hvc he (a.gl h2).2.2 (a.gl h2).2.1 hs hpl
/-- a, b = e, f: two local names -/
theorem swap2 {ea eb : Expr} {y : Str} {px py pt : Pos} {kt k2 : Nat} {pt2 : Pos} (a : At X N sc) (hk : X.env.scope.kind = .function) (h : (lclB sc x && lclB sc y && !(x == y) && (py.line == px.line)) = true)
    (h1 : ([ea, eb].any fun | .Starred .. => true | _ => false) = false := by rfl) (h2 : [ea, eb].all (foldedForSure 8) = false := by rfl) (h3 : [ea, eb].all (constantsAlone 8) = false := by rfl) :
    swappedStores [.Tuple [.Name x px, .Name y py] kt pt] (.Tuple [ea, eb] k2 pt2) X.env = pure (some [x, y]) := by
  simp only [Bool.and_eq_true, Bool.not_eq_true', beq_iff_eq] at h
  obtain ⟨⟨⟨hx, hy⟩, hxy⟩, hl⟩ := h
  have kx : X.env.kindOf x = some .local := by show X.env.scope.names.lookup x = _; rw [a.hs]; exact lclB_ok hx
  have ky : X.env.kindOf y = some .local := by show X.env.scope.names.lookup y = _; rw [a.hs]; exact lclB_ok hy
  have bk : X.env.blockKind = .function := by unfold Env.blockKind; rw [hk]; rfl
  have hne : (y == x) = false := by
    have : x ≠ y := by simpa using hxy
    simpa using Ne.symm this
  unfold swappedStores
  simp [kx, ky, bk, hl, h1, h2, h3, Expr.pos, List.eraseDups_cons, hne, hxy]
  intro h
  simp only [List.any_cons, List.any_nil, Bool.or_false, Bool.or_eq_false_iff] at h1
  rcases h with h | h
  · cases ea <;> first | exact absurd h Bool.false_ne_true | exact absurd h1.1.symm Bool.false_ne_true
  · cases eb <;> first | exact absurd h Bool.false_ne_true | exact absurd h1.2.symm Bool.false_ne_true
theorem ss_p2 {ea eb : Expr} {fa fb : EM} {y : Str} {px py pt : Pos} {kt k2 : Nat} {pt2 : Pos} (a : At X N sc) (hk : X.env.scope.kind = .function) (nd : X.N.Nodup) (hc : X.calm = true) (i j : Nat) (hi : decide (N[i]? = some x) = true) (hj : decide (N[j]? = some y) = true) (hij : i ≠ j) (hp : φ.pr i = false) (hq : φ.pr j = false)
    (h : (lclB sc x && lclB sc y && !(x == y) && (py.line == px.line)) = true) (ha : SE X T W ea fa) (hb : SE X T W eb fb) (hs : starEach [ea, eb] X.env = (false, eval ea X.env) :: starEach [eb] X.env := by rfl) (hs2 : starEach [eb] X.env = (false, eval eb X.env) :: starEach [] X.env := by rfl)
    (h1 : ([ea, eb].any fun | .Starred .. => true | _ => false) = false := by rfl) (h2 : [ea, eb].all (foldedForSure 8) = false := by rfl) (h3 : [ea, eb].all (constantsAlone 8) = false := by rfl)
    (hw : swapsWithSole [.Tuple [.Name x px, .Name y py] kt pt] (.Tuple [ea, eb] k2 pt2) pos.line X.env = pure false := by rfl) :
    SS X T W φ (.Assign [.Tuple [.Name x px, .Name y py] kt pt] (.Tuple [ea, eb] k2 pt2) pos) (parM i j fa fb) := by
  have h' := h
  simp only [Bool.and_eq_true, Bool.not_eq_true', beq_iff_eq] at h'
  have gi : X.N[i]? = some x := by rw [a.hN]; exact of_decide_eq_true hi
  have gj : X.N[j]? = some y := by rw [a.hN]; exact of_decide_eq_true hj
  exact ss_par hp hq gi gj (ps_par hc nd gi gj hij (by rw [a.hs]; exact lclB_ok h'.1.1.1) (by rw [a.hs]; exact lclB_ok h'.1.1.2) (pa_cons ha (pa_cons hb pa_nil hs2) hs) (swap2 a hk h h1 h2 h3) hw)
end
/-- a def of the text, with its promise -/
theorem fn_e {T : Tb} {P : Program} {w : World} {mg : Str → Option Value} {base : Heap} {k n : Nat} {x qual : Str} {st : Stmt} {f : Addr} {fd : FuncData} {N ps : List Str} {pr : Nat → Bool} {m : SM} (G : Fun T.K x qual st f fd) (S : FnScope N ps (defScope st)) (hn : ps.length = n) (hmg : mg x = some (.ref f)) (hb : Binds T.K fd ps [])
    (hw : w = T.w) (hsm : base.get? sysModules ≠ none)
    (body : ∀ (X : Cx) (W : WX) (H : Hp), X.prog = P → X.w = w → X.mg = mg → X.base = base → At X N (defScope st) → X.env.scope.kind = .function → (∀ x, X.fn x = true) → Cxt X T W k → SB X T W ⟨H, n, pr⟩ (defBody st) m) :
    FnE P w mg base T x (k + 1) n (runD n N.length pr m) :=
  ⟨f, fd, ps, hmg, G.kp, hb, hn, fn_g G S hn rfl hw hsm fun X W H h1 h2 _ h4 h5 h6 h7 h8 h9 c => body X W H h1 h2 h4 h5 ⟨h6, h7⟩ h8 (fun x => by rw [h9]) c⟩
end DL
namespace DL
open PySem L2 PyProof.Rows
section
variable {X : Cx} {T : Tb} {W : WX} {n : Nat} {N : List Str} {sc : Scope} {a b d e : Expr} {fa fb fd fe : EM} {pos p : Pos}
theorem e_add (c : Cxt X T W n) (ha : SE X T W a fa) (hb : SE X T W b fb) : SE X T W (.BinOp a .Add b pos) (op2M dPlus fa fb) := se_op (c.hK ▸ op_plus) does_plus ha hb
theorem e_sub (c : Cxt X T W n) (ha : SE X T W a fa) (hb : SE X T W b fb) : SE X T W (.BinOp a .Sub b pos) (op2M dMinus fa fb) := se_op op_sub does_minus ha hb
theorem e_mul (c : Cxt X T W n) (ha : SE X T W a fa) (hb : SE X T W b fb) : SE X T W (.BinOp a .Mult b pos) (op2M dMul fa fb) := se_op (c.hK ▸ op_mulX) does_mul ha hb
theorem e_fd (c : Cxt X T W n) (ha : SE X T W a fa) (hb : SE X T W b fb) : SE X T W (.BinOp a .FloorDiv b pos) (op2M dFd fa fb) := se_op op_fd does_fd ha hb
theorem e_mod (c : Cxt X T W n) (ha : SE X T W a fa) (hb : SE X T W b fb) : SE X T W (.BinOp a .Mod b pos) (op2M dMod fa fb) := se_op op_modN does_mod ha hb
theorem e_pow (c : Cxt X T W n) (ha : SE X T W a fa) (hb : SE X T W b fb) : SE X T W (.BinOp a .Pow b pos) (op2M dPow fa fb) := se_op op_pow does_pow ha hb
theorem e_neg (c : Cxt X T W n) (ha : SE X T W a fa) : SE X T W (.UnaryOp .USub a pos) (op1M dNeg fa) := se_un un_neg does_neg ha
theorem e_lt (c : Cxt X T W n) (ha : SE X T W a fa) (hb : SE X T W b fb) : SE X T W (.Compare a [.Lt] [b] pos) (op2M dLt fa fb) := se_cmp op_lt does_lt ha hb (nomark _)
theorem e_gt (c : Cxt X T W n) (ha : SE X T W a fa) (hb : SE X T W b fb) : SE X T W (.Compare a [.Gt] [b] pos) (op2M dGt fa fb) := se_cmp op_gt does_gt ha hb (nomark _)
theorem e_eq (c : Cxt X T W n) (ha : SE X T W a fa) (hb : SE X T W b fb) : SE X T W (.Compare a [.Eq] [b] pos) (op2M dEq fa fb) := se_cmp (op_eq.or (c.hK ▸ op_eqD c.room.units)) does_eq ha hb (nomark _)
theorem e_isN (c : Cxt X T W n) (ha : SE X T W a fa) (hb : SE X T W b fb) : SE X T W (.Compare a [.Is] [b] pos) (op2M dIsN fa fb) := se_cmp op_isN does_isN ha hb (nomark _)
theorem e_notN (c : Cxt X T W n) (ha : SE X T W a fa) (hb : SE X T W b fb) : SE X T W (.Compare a [.IsNot] [b] pos) (op2M dNotN fa fb) := se_cmp op_notN does_notN ha hb (nomark _)
theorem t_lt (c : Cxt X T W n) (ha : SE X T W a fa) (hb : SE X T W b fb) : ST X T W (.Compare a [.Lt] [b] pos) (tsM (op2M dLt fa fb)) := st_cmp op_lt does_lt ha hb (nomark _)
theorem t_gt (c : Cxt X T W n) (ha : SE X T W a fa) (hb : SE X T W b fb) : ST X T W (.Compare a [.Gt] [b] pos) (tsM (op2M dGt fa fb)) := st_cmp op_gt does_gt ha hb (nomark _)
theorem t_ge (c : Cxt X T W n) (ha : SE X T W a fa) (hb : SE X T W b fb) : ST X T W (.Compare a [.GtE] [b] pos) (tsM (op2M dGe fa fb)) := st_cmp op_ge does_ge ha hb (nomark _)
theorem t_eq (c : Cxt X T W n) (ha : SE X T W a fa) (hb : SE X T W b fb) : ST X T W (.Compare a [.Eq] [b] pos) (tsM (op2M dEq fa fb)) := st_cmp (op_eq.or (c.hK ▸ op_eqD c.room.units)) does_eq ha hb (nomark _)
theorem t_ne (c : Cxt X T W n) (ha : SE X T W a fa) (hb : SE X T W b fb) : ST X T W (.Compare a [.NotEq] [b] pos) (tsM (op2M dNe fa fb)) := st_cmp (op_ne.or (c.hK ▸ op_neD c.room.units)) does_ne ha hb (nomark _)
theorem t_isN (c : Cxt X T W n) (ha : SE X T W a fa) (hb : SE X T W b fb) : ST X T W (.Compare a [.Is] [b] pos) (tsM (op2M dIsN fa fb)) := st_cmp op_isN does_isN ha hb (nomark _)
/-- the four orders, for chains -/
inductive Ord : CmpOp → (PyData → PyData → Option R) → Prop where
  | lt : Ord .Lt dLt
  | le : Ord .LtE dLe
  | gt : Ord .Gt dGt
  | ge : Ord .GtE dGe
theorem Ord.ok {op : CmpOp} {g : PyData → PyData → Option R} (o : Ord op g) : ∃ r, OpR X (compareOp op) r ∧ Does2 T r g := by
  cases o with
  | lt => exact ⟨_, op_lt, does_lt⟩
  | le => exact ⟨_, op_le, does_le⟩
  | gt => exact ⟨_, op_gt, does_gt⟩
  | ge => exact ⟨_, op_ge, does_ge⟩
theorem e_ch {op op' : CmpOp} {g g' : PyData → PyData → Option R} (o : Ord op g) (o' : Ord op' g') (ha : SE X T W a fa) (hb : SE X T W b fb) (hd : SE X T W d fd) (hm : lastMarks [op, op'] [b, d] = false := by with_unfolding_all rfl) : SE X T W (.Compare a [op, op'] [b, d] pos) (chM g g' fa fb fd) := by
  obtain ⟨r, h1, h2⟩ := o.ok (X := X) (T := T)
  obtain ⟨r', h3, h4⟩ := o'.ok (X := X) (T := T)
  exact se_ch h1 h3 h2 h4 ha hb hd hm
theorem t_ch {op op' : CmpOp} {g g' : PyData → PyData → Option R} (o : Ord op g) (o' : Ord op' g') (ha : SE X T W a fa) (hb : SE X T W b fb) (hd : SE X T W d fd) (hm : lastMarks [op, op'] [b, d] = false := by with_unfolding_all rfl) : ST X T W (.Compare a [op, op'] [b, d] pos) (tsM (chM g g' fa fb fd)) := by
  obtain ⟨r, h1, h2⟩ := o.ok (X := X) (T := T)
  obtain ⟨r', h3, h4⟩ := o'.ok (X := X) (T := T)
  exact st_ch h1 h3 h2 h4 ha hb hd hm
variable {es : List Expr} {f : AM}
theorem e_len (l : At X N sc) (c : Cxt X T W n) (hx : gnB sc "len" = true) (hm : X.mg "len" = none) (ha : SA X T W [e] f) (he : starEach [e] X.env = (false, eval e X.env) :: starEach [] X.env := by rfl) : SE X T W (.Call (.Name "len" p) [e] [] pos) (opnM (on1 lenD) f) :=
  se_b l hx (c.hK ▸ call_lenX) does_len hm PySem.boot_len ha he rfl
theorem e_abs (l : At X N sc) (c : Cxt X T W n) (hx : gnB sc "abs" = true) (hm : X.mg "abs" = none) (ha : SA X T W [e] f) (he : starEach [e] X.env = (false, eval e X.env) :: starEach [] X.env := by rfl) : SE X T W (.Call (.Name "abs" p) [e] [] pos) (opnM (on1 absD) f) :=
  se_b l hx call_abs does_abs hm (by decide +kernel) ha he rfl
theorem e_all (l : At X N sc) (c : Cxt X T W n) (hx : gnB sc "all" = true) (hm : X.mg "all" = none) (ha : SA X T W [e] f) (he : starEach [e] X.env = (false, eval e X.env) :: starEach [] X.env := by rfl) : SE X T W (.Call (.Name "all" p) [e] [] pos) (opnM (on1 allD) f) :=
  se_b l hx (c.hK ▸ cr_all c.calm) does_all hm (by decide +kernel) ha he rfl
theorem e_any (l : At X N sc) (c : Cxt X T W n) (hx : gnB sc "any" = true) (hm : X.mg "any" = none) (ha : SA X T W [e] f) (he : starEach [e] X.env = (false, eval e X.env) :: starEach [] X.env := by rfl) : SE X T W (.Call (.Name "any" p) [e] [] pos) (opnM (on1 anyD) f) :=
  se_b l hx (c.hK ▸ cr_any c.calm) does_any hm (by decide +kernel) ha he rfl
theorem e_repr (l : At X N sc) (c : Cxt X T W n) (hx : gnB sc "repr" = true) (hm : X.mg "repr" = none) (ha : SA X T W [e] f) (he : starEach [e] X.env = (false, eval e X.env) :: starEach [] X.env := by rfl) : SE X T W (.Call (.Name "repr" p) [e] [] pos) (opnM (on1 reprD) f) :=
  se_b l hx (call_reprX c) does_repr hm (by decide +kernel) ha he rfl
theorem e_max2 (l : At X N sc) (c : Cxt X T W n) (hx : gnB sc "max" = true) (hm : X.mg "max" = none) (ha : SA X T W [e, d] f) (he : starEach [e, d] X.env = (false, eval e X.env) :: starEach [d] X.env := by rfl) (hpl : (backTo pos (starEach [d] X.env)).any (·.1) = false := by rfl) : SE X T W (.Call (.Name "max" p) [e, d] [] pos) (opnM (on2 max2D) f) :=
  se_b l hx (call_max2 c.calm) does_max2 hm (by decide +kernel) ha he hpl
theorem e_min2 (l : At X N sc) (c : Cxt X T W n) (hx : gnB sc "min" = true) (hm : X.mg "min" = none) (ha : SA X T W [e, d] f) (he : starEach [e, d] X.env = (false, eval e X.env) :: starEach [d] X.env := by rfl) (hpl : (backTo pos (starEach [d] X.env)).any (·.1) = false := by rfl) : SE X T W (.Call (.Name "min" p) [e, d] [] pos) (opnM (on2 min2D) f) :=
  se_b l hx (call_min2 c.calm) does_min2 hm (by decide +kernel) ha he hpl
theorem e_tuple (l : At X N sc) (c : Cxt X T W n) (hx : gnB sc "tuple" = true) (hm : X.mg "tuple" = none) (ha : SA X T W [e] f) (he : starEach [e] X.env = (false, eval e X.env) :: starEach [] X.env := by rfl) : SE X T W (.Call (.Name "tuple" p) [e] [] pos) (opnM (on1 tupD) f) :=
  se_t l hx (c.hK ▸ call_tuple_of) does_tuple hm (by decide +kernel) ha he rfl
theorem e_list (l : At X N sc) (c : Cxt X T W n) (hx : gnB sc "list" = true) (hm : X.mg "list" = none) (ha : SA X T W [e] f) (he : starEach [e] X.env = (false, eval e X.env) :: starEach [] X.env := by rfl) : SE X T W (.Call (.Name "list" p) [e] [] pos) (opnM (on1 lstD) f) :=
  se_t l hx (c.hK ▸ call_list_of) does_list hm (by decide +kernel) ha he rfl
theorem e_int (l : At X N sc) (c : Cxt X T W n) (hx : gnB sc "int" = true) (hm : X.mg "int" = none) (ha : SA X T W [e] f) (he : starEach [e] X.env = (false, eval e X.env) :: starEach [] X.env := by rfl) : SE X T W (.Call (.Name "int" p) [e] [] pos) (opnM (on1 intD) f) :=
  se_t l hx call_int1 does_int hm (by decide +kernel) ha he rfl
theorem e_rng1 {tg : Expr} (l : At X N sc) (hx : gnB sc "range" = true) (hm : X.mg "range" = none) (ha : SE X T W a fa) (hs : starEach [a] X.env = [(false, eval a X.env)] := by rfl) : SI X T W tg (.Call (.Name "range" p) [a] [] pos) (irM1 fa) := si_rng1 (l.gl hx).1 hm ha hs
end
end DL
namespace DL
open PySem L2 PyProof.Rows
/-- a class of errors of the text, made without anything -/
structure ExE (mg : Str → Option Value) (T : Tb) (x : Str) (c : Nat) : Prop where
  g : mg x = some (.ref (T.ca c))
  k : PySem.W.keepIn T.K (.ref (T.ca c)) = true
  x : PySem.W.excIn T.K (T.ca c) veM "ValueError.__new__" = true
  b : PySem.W.subIn T.K (.ref (T.ca c)) (.type "BaseException") = some true
  t : PySem.W.typeIn T.K (.ref (T.ca c)) = some (.type "type")
def raiseM (c : Nat) : SM := fun ρ => some (.er c [] ρ)
theorem pmk0 {X : Cx} {C : Addr} {x : Str} {p pos : Pos} (q : PySem.W.excIn X.K C veM "ValueError.__new__" = true) (gC : X.mg x = some (.ref C)) (kC : PySem.W.keepIn X.K (.ref C) = true) (r : Raises X (.ref C)) (hg : L2.Gl X x) (hdb : (x == ("__debug__" : Str)) = false) :
    PMk X (.Call (.Name x p) [] [] pos) (fun _ H Q => Q (.ref C) none H) := by
  intro pins s σ H Q I h
  have go : wpAny (model X.prog X.w) X.A (call (.ref C) []) (MkP X pins σ Q) X.xe s := by
    obtain ⟨bm, N, nm, qn, bs, hdct, sn, sub, ab, col, dd, k0, k1, k2, k3, k5, mN, hC, hN, hni, T⟩ := exc_obj I.kIn q
    refine wpAny_call_exc_subT PySem.F.excBase_ValueError T hC hN hni ?_ (by show 0 ≤ sizeLine; exact Nat.zero_le _)
    intro h' e hm
    exact mk_of I hm r h (I.hok.gone hm.new)
  exact wpAny_Call_Name_kw (ld_glob I hg gC (PySem.W.callWith_K0 I.kIn kC go) hdb)
section
variable {X : Cx} {T : Tb} {W : WX} {n k : Nat} {N : List Str} {sc : Scope} {φ : Fm} {pos p p2 : Pos} {x : Str}
theorem s_raise (l : At X N sc) (c : Cxt X T W n) (h : ExE X.mg T x k) (hx : gnB sc x = true) : SS X T W φ (.Raise (some (.Call (.Name x p) [] [] p2)) none pos) (raiseM k) := by
  have hK := c.hK
  have r : Raises X (.ref (T.ca k)) := raises_own (by rw [hK]; exact h.b) (by rw [hK]; exact h.t)
  refine ps_imp (ps_raise c.calm c.tk (pmk0 (by rw [hK]; exact h.x) h.g (by rw [hK]; exact h.k) r (l.gl hx).1 (l.gl hx).2.1)) fun D σ H ⟨ρ, F, O, S, P⟩ => ?_
  exact P _ none σ H F O .refl S .refl ⟨rfl, rfl⟩
end
end DL
namespace DL
open PySem L2 PyProof.Rows
/-- what a walk has to give -/
def Walked (ts : List Addr) (P : Program) (w : World) (K : PySem.W.Frag) (mg : Str → Option Value) (fa : Addr) (x : Str) (k : Nat) (pr : Sem → Prop) : Prop :=
  ∃ (fd : FuncData) (T : Tb) (sem : Sem) (tn : List (Addr × Addr)), T.K = K ∧ T.w = w ∧ (∀ (s : Shared) (u : Value), BindsTo s fd ⟨[u], []⟩ [(x, u)]) ∧
      ((∀ t ∈ tn, PySem.W.codeHdIn T.K t.1 t.2 = true ∧ t.2 ∈ ts ∧ T.K.lookup t.2 = none) ∧ ∀ q ∈ T.tb, isTab tn q.1) ∧
      (∀ base : Heap, T.K.In base → base.Ns mainGlobals mg → base.get? sysModules ≠ none → (∀ t ∈ tn, LamX.TabB base mg t.1 t.2) → FnG P w T.K mg base k fa fd [x] (spOf T 1 sem)) ∧ pr sem
theorem fin_g {ts : List Addr} {P : Program} {w : World} {K : PySem.W.Frag} {mg : Str → Option Value} {fa : Addr} {x : Str} {k n : Nat} {sl : Sem}
    (tr : ∀ ns : List Int, ns.length ≤ n → ∃ os, sl [.dat (.list (ns.map .int))] = some (.ok (.dat (.bool true)) os))
    (h : Walked ts P w K mg fa x k fun sem => sem = sl) : Walked ts P w K mg fa x k fun sem => ∀ ns : List Int, ns.length ≤ n → ∃ os, sem [.dat (.list (ns.map .int))] = some (.ok (.dat (.bool true)) os) := by
  obtain ⟨fd, T, sem, tn, a, b, c, d, e, f⟩ := h
  exact ⟨fd, T, sem, tn, a, b, c, d, e, f ▸ tr⟩
end DL
namespace DL
open PySem L2
end DL
namespace DL
open PySem L2
/-- a proof whose steps a reader of terms need not take again -/
theorem eqI {α : Sort _} {a b : α} (h : a = b) : a = b := h
/-- what follows a statement -/
def thenS (o : Option Ot) (g : SM) : Option Ot := match o with
  | some (.nx ρ1) => g ρ1
  | o => o
@[simp] theorem thenS_nx (ρ : Rho) (g : SM) : thenS (some (.nx ρ)) g = g ρ := eqI rfl
@[simp] theorem thenS_rt (r : R) (ρ : Rho) (g : SM) : thenS (some (.rt r ρ)) g = some (.rt r ρ) := eqI rfl
@[simp] theorem thenS_bk (ρ : Rho) (g : SM) : thenS (some (.bk ρ)) g = some (.bk ρ) := eqI rfl
@[simp] theorem thenS_ct (ρ : Rho) (g : SM) : thenS (some (.ct ρ)) g = some (.ct ρ) := eqI rfl
@[simp] theorem thenS_er (c : Nat) (fs : List PyData) (ρ : Rho) (g : SM) : thenS (some (.er c fs ρ)) g = some (.er c fs ρ) := eqI rfl
@[simp] theorem seqM_e (f g : SM) (ρ : Rho) : seqM f g ρ = thenS (f ρ) g := eqI rfl
@[simp] theorem skipM_e (ρ : Rho) : skipM ρ = some (.nx ρ) := eqI rfl
@[simp] theorem dropM_e (f : EM) (ρ : Rho) : dropM f ρ = bindS (f ρ) fun _ ρ1 => some (.nx ρ1) := eqI rfl
/-- one of two -/
def pick {α : Type} (b : Bool) (f g : Rho → Option α) (ρ : Rho) : Option α := if b = true then f ρ else g ρ
@[simp] theorem pick_t {α : Type} (f g : Rho → Option α) (ρ : Rho) : pick true f g ρ = f ρ := eqI rfl
@[simp] theorem pick_f {α : Type} (f g : Rho → Option α) (ρ : Rho) : pick false f g ρ = g ρ := eqI rfl
@[simp] theorem ifM_e (c : Rho → Option (Oe Bool)) (f g : SM) (ρ : Rho) : ifM c f g ρ = bindS (c ρ) fun b ρ1 => pick b f g ρ1 := eqI rfl
@[simp] theorem iteM_e (c : Rho → Option (Oe Bool)) (f g : EM) (ρ : Rho) : iteM c f g ρ = bindO (c ρ) fun b ρ1 => pick b f g ρ1 := eqI rfl
@[simp] theorem andT_e (f g : Rho → Option (Oe Bool)) (ρ : Rho) : andT f g ρ = bindO (f ρ) fun b ρ1 => pick b g (fun ρ => some (.ok false ρ)) ρ1 := eqI rfl
@[simp] theorem orT_e (f g : Rho → Option (Oe Bool)) (ρ : Rho) : orT f g ρ = bindO (f ρ) fun b ρ1 => pick b (fun ρ => some (.ok true ρ)) g ρ1 := eqI rfl
@[simp] theorem notT_e (f : Rho → Option (Oe Bool)) (ρ : Rho) : notT f ρ = bindO (f ρ) fun b ρ1 => some (.ok (!b) ρ1) := eqI rfl
@[simp] theorem yesT_e (ρ : Rho) : yesT ρ = some (.ok true ρ) := eqI rfl
def tsR (r : R) (ρ1 : Rho) : Option (Oe Bool) := match r with
  | .dat (.bool b) => some (.ok b ρ1)
  | _ => none
@[simp] theorem tsR_e (b : Bool) (ρ : Rho) : tsR (.dat (.bool b)) ρ = some (.ok b ρ) := eqI rfl
@[simp] theorem tsM_e (f : EM) (ρ : Rho) : tsM f ρ = bindO (f ρ) tsR := eqI rfl
/-- a truth, then -/
def bR (r : R) (f g : EM) (ρ : Rho) : Option (Oe R) := match r with
  | .dat (.bool true) => f ρ
  | .dat (.bool false) => g ρ
  | _ => none
@[simp] theorem bR_e (b : Bool) (f g : EM) (ρ : Rho) : bR (.dat (.bool b)) f g ρ = pick b f g ρ := by cases b <;> rfl
@[simp] theorem andM_e (f g : EM) (ρ : Rho) : andM f g ρ = bindO (f ρ) fun r ρ1 => bR r g (cM (.bool false)) ρ1 := by
  unfold andM bR; cases f ρ with
  | none => rfl
  | some o => cases o with
    | er _ _ _ => rfl
    | ok r ρ1 => cases r with
      | dat d => cases d with
        | bool b => cases b <;> rfl
        | _ => rfl
      | _ => rfl
@[simp] theorem orM_e (f g : EM) (ρ : Rho) : orM f g ρ = bindO (f ρ) fun r ρ1 => bR r (cM (.bool true)) g ρ1 := by
  unfold orM bR; cases f ρ with
  | none => rfl
  | some o => cases o with
    | er _ _ _ => rfl
    | ok r ρ1 => cases r with
      | dat d => cases d with
        | bool b => cases b <;> rfl
        | _ => rfl
      | _ => rfl
def ntR (r : R) (ρ1 : Rho) : Option (Oe R) := match r with
  | .dat (.bool b) => some (.ok (.dat (.bool (!b))) ρ1)
  | _ => none
@[simp] theorem ntR_e (b : Bool) (ρ : Rho) : ntR (.dat (.bool b)) ρ = some (.ok (.dat (.bool (!b))) ρ) := eqI rfl
@[simp] theorem notM_e (f : EM) (ρ : Rho) : notM f ρ = bindO (f ρ) ntR := eqI rfl
/-- a slot read -/
def nmR (i : Nat) (o : Option (Option R)) (ρ : Rho) : Option (Oe R) := match o with
  | some (some (.dat d)) => some (.ok (.dat d) ρ)
  | some (some (.own _)) => some (.ok (.slt i) ρ)
  | some (some (.st _)) => some (.ok (.slt i) ρ)
  | some (some (.obj _)) => some (.ok (.slt i) ρ)
  | some (some (.fn k)) => some (.ok (.fn k) ρ)
  | some (some (.ex c fs)) => some (.ok (.ex c fs) ρ)
  | _ => none
@[simp] theorem nmR_x (i c : Nat) (fs : List PyData) (ρ : Rho) : nmR i (some (some (.ex c fs))) ρ = some (.ok (.ex c fs) ρ) := eqI rfl
@[simp] theorem nmR_d (i : Nat) (d : PyData) (ρ : Rho) : nmR i (some (some (.dat d))) ρ = some (.ok (.dat d) ρ) := eqI rfl
@[simp] theorem nmR_o (i : Nat) (d : PyData) (ρ : Rho) : nmR i (some (some (.own d))) ρ = some (.ok (.slt i) ρ) := eqI rfl
@[simp] theorem nmR_s (i : Nat) (d : List Int) (ρ : Rho) : nmR i (some (some (.st d))) ρ = some (.ok (.slt i) ρ) := eqI rfl
@[simp] theorem nmR_ob (i : Nat) (d : OD) (ρ : Rho) : nmR i (some (some (.obj d))) ρ = some (.ok (.slt i) ρ) := eqI rfl
@[simp] theorem nmM_e (i : Nat) (ρ : Rho) : nmM i ρ = nmR i ρ[i]? ρ := eqI rfl
@[simp] theorem cM_e (d : PyData) (ρ : Rho) : cM d ρ = some (.ok (.dat d) ρ) := eqI rfl
@[simp] theorem val_d (ρ : Rho) (d : PyData) : val ρ (.dat d) = some d := eqI rfl
@[simp] theorem val_o (ρ : Rho) (d : PyData) : val ρ (.own d) = some d := eqI rfl
@[simp] theorem val_pt (ρ : Rho) (i k : Nat) : val ρ (.prt i k) = partD k ρ[i]? := eqI rfl
@[simp] theorem partD_0 (ts ss : List PyData) : partD 0 (some (some (.obj (.led ts ss)))) = some (.list ts) := eqI rfl
@[simp] theorem partD_1 (ts ss : List PyData) : partD 1 (some (some (.obj (.led ts ss)))) = some (.list ss) := eqI rfl
@[simp] theorem val_s (ρ : Rho) (i : Nat) : val ρ (.slt i) = slotD ρ[i]? := eqI rfl
@[simp] theorem slotD_d (d : PyData) : slotD (some (some (.dat d))) = some d := eqI rfl
@[simp] theorem slotD_o (d : PyData) : slotD (some (some (.own d))) = some d := eqI rfl
@[simp] theorem frz_d (ρ : Rho) (d : PyData) : frz ρ (.dat d) = some (d, ρ) := eqI rfl
@[simp] theorem frz_o (ρ : Rho) (d : PyData) : frz ρ (.own d) = some (d, ρ) := eqI rfl
@[simp] theorem frz_s (ρ : Rho) (i : Nat) : frz ρ (.slt i) = (slotD ρ[i]?).map fun d => (d, ρ.set i (some (.dat d))) := eqI rfl
/-- an answer in its place -/
def retO (o : Option R) (ρ : Rho) : Option (Oe R) := match o with
  | some z => some (.ok z ρ)
  | none => none
@[simp] theorem retO_e (z : R) (ρ : Rho) : retO (some z) ρ = some (.ok z ρ) := eqI rfl
def op2R (g : PyData → PyData → Option R) (ρ : Rho) (a b : Option PyData) : Option (Oe R) := match a, b with
  | some d, some e => retO (g d e) ρ
  | _, _ => none
@[simp] theorem op2R_e (g : PyData → PyData → Option R) (ρ : Rho) (d e : PyData) : op2R g ρ (some d) (some e) = retO (g d e) ρ := eqI rfl
theorem map_retO (o : Option R) (ρ : Rho) : (o.map fun z => Oe.ok z ρ) = retO o ρ := by cases o <;> rfl
@[simp] theorem op2M_e (g : PyData → PyData → Option R) (fa fb : EM) (ρ : Rho) : op2M g fa fb ρ = bindO (fa ρ) fun r ρ1 => bindO (fb ρ1) fun s ρ2 => op2R g ρ2 (val ρ2 r) (val ρ2 s) := by
  unfold op2M op2R; simp only [map_retO] <;> rfl
def op1R (g : PyData → Option R) (ρ : Rho) (a : Option PyData) : Option (Oe R) := match a with
  | some d => retO (g d) ρ
  | _ => none
@[simp] theorem op1R_e (g : PyData → Option R) (ρ : Rho) (d : PyData) : op1R g ρ (some d) = retO (g d) ρ := eqI rfl
@[simp] theorem op1M_e (g : PyData → Option R) (fa : EM) (ρ : Rho) : op1M g fa ρ = bindO (fa ρ) fun r ρ1 => op1R g ρ1 (val ρ1 r) := by
  unfold op1M op1R; simp only [map_retO] <;> rfl
@[simp] theorem tmp_d (d : PyData) : tmp (.dat d) = .dat d := eqI rfl
@[simp] theorem tmp_x (c : Nat) (fs : List PyData) : tmp (.ex c fs) = .ex c fs := eqI rfl
@[simp] theorem tmp_o (d : PyData) : tmp (.own d) = .dat d := eqI rfl
@[simp] theorem tmp_s (d : Nat) : tmp (.slt d) = .slt d := eqI rfl
@[simp] theorem nilA_e (ρ : Rho) : nilA ρ = some (.ok [] ρ) := eqI rfl
@[simp] theorem consA_e (fe : EM) (fr : AM) (ρ : Rho) : consA fe fr ρ = bindO (fe ρ) fun r ρ1 => bindO (fr ρ1) fun rs ρ2 => some (.ok (tmp r :: rs) ρ2) := eqI rfl
/-- stilled, then -/
def bindF {β : Type} (o : Option (PyData × Rho)) (g : PyData → Rho → Option β) : Option β := match o with
  | some (d, ρ) => g d ρ
  | none => none
@[simp] theorem bindF_e {β : Type} (d : PyData) (ρ : Rho) (g : PyData → Rho → Option β) : bindF (some (d, ρ)) g = g d ρ := eqI rfl
@[simp] theorem consD_e (fe : EM) (fr : AM) (ρ : Rho) : consD fe fr ρ = bindO (fe ρ) fun r ρ1 => bindF (frz ρ1 r) fun d ρ2 => bindO (fr ρ2) fun rs ρ3 => some (.ok (.dat d :: rs) ρ3) := eqI rfl
def consV (a : Option PyData) (b : Option (List PyData)) : Option (List PyData) := match a, b with
  | some d, some ds => some (d :: ds)
  | _, _ => none
@[simp] theorem consV_e (d : PyData) (ds : List PyData) : consV (some d) (some ds) = some (d :: ds) := eqI rfl
@[simp] theorem vals_0 (ρ : Rho) : vals ρ [] = some [] := eqI rfl
@[simp] theorem vals_c (ρ : Rho) (r : R) (rs : List R) : vals ρ (r :: rs) = consV (val ρ r) (vals ρ rs) := eqI rfl
def opnR (g : List PyData → Option R) (ρ : Rho) (a : Option (List PyData)) : Option (Oe R) := match a with
  | some d => retO (g d) ρ
  | _ => none
@[simp] theorem opnR_e (g : List PyData → Option R) (ρ : Rho) (d : List PyData) : opnR g ρ (some d) = retO (g d) ρ := eqI rfl
@[simp] theorem opnM_e (g : List PyData → Option R) (fa : AM) (ρ : Rho) : opnM g fa ρ = bindO (fa ρ) fun rs ρ1 => opnR g ρ1 (vals ρ1 rs) := by
  unfold opnM opnR; simp only [map_retO]
  congr; funext rs ρ1; cases vals ρ1 rs <;> rfl
@[simp] theorem on1_e (g : PyData → Option R) (d : PyData) : on1 g [d] = g d := eqI rfl
@[simp] theorem on2_e (g : PyData → PyData → Option R) (d e : PyData) : on2 g [d, e] = g d e := eqI rfl
@[simp] theorem dats_0 : dats [] = some [] := eqI rfl
@[simp] theorem dats_c (d : PyData) (rs : List R) : dats (.dat d :: rs) = (dats rs).map (d :: ·) := eqI rfl
def tupR (o : Option (List PyData)) (ρ : Rho) : Option (Oe R) := match o with
  | some ds => if ds.length ≤ 100000 then some (.ok (.dat (.tuple ds)) ρ) else none
  | none => none
@[simp] theorem tupR_e (ds : List PyData) (ρ : Rho) : tupR (some ds) ρ = if ds.length ≤ 100000 then some (.ok (.dat (.tuple ds)) ρ) else none := eqI rfl
@[simp] theorem tupM_e (fa : AM) (ρ : Rho) : tupM fa ρ = bindO (fa ρ) fun rs ρ1 => tupR (dats rs) ρ1 := eqI rfl
def lstR (o : Option (List PyData)) (ρ : Rho) : Option (Oe R) := match o with
  | some ds => if ds.length ≤ 100000 then some (.ok (.own (.list ds)) ρ) else none
  | none => none
@[simp] theorem lstR_e (ds : List PyData) (ρ : Rho) : lstR (some ds) ρ = if ds.length ≤ 100000 then some (.ok (.own (.list ds)) ρ) else none := eqI rfl
@[simp] theorem lstM_e (fa : AM) (ρ : Rho) : lstM fa ρ = bindO (fa ρ) fun rs ρ1 => lstR (dats rs) ρ1 := eqI rfl
/-- the second comparison -/
def chR (o : Option R) (k : EM) (ρ : Rho) : Option (Oe R) := match o with
  | some (.dat (.bool true)) => k ρ
  | some (.dat (.bool false)) => some (.ok (.dat (.bool false)) ρ)
  | _ => none
@[simp] theorem chR_e (b : Bool) (k : EM) (ρ : Rho) : chR (some (.dat (.bool b))) k ρ = pick b k (cM (.bool false)) ρ := by cases b <;> rfl
def chR2 (g : PyData → PyData → Option R) (a b : Option PyData) (k : EM) (ρ : Rho) : Option (Oe R) := match a, b with
  | some d, some e => chR (g d e) k ρ
  | _, _ => none
@[simp] theorem chR2_e (g : PyData → PyData → Option R) (d e : PyData) (k : EM) (ρ : Rho) : chR2 g (some d) (some e) k ρ = chR (g d e) k ρ := eqI rfl
@[simp] theorem chM_e (g g' : PyData → PyData → Option R) (fa fb fc : EM) (ρ : Rho) : chM g g' fa fb fc ρ = bindO (fa ρ) fun r ρ1 => bindO (fb ρ1) fun s ρ2 => chR2 g (val ρ2 r) (val ρ2 s) (fun ρ => bindO (fc ρ) fun t ρ3 => op2R g' ρ3 (val ρ3 s) (val ρ3 t)) ρ2 := by
  unfold chM chR2 chR op2R; simp only [map_retO] <;> rfl
def nxO (o : Option Rho) : Option Ot := match o with
  | some ρ => some (.nx ρ)
  | none => none
@[simp] theorem nxO_e (ρ : Rho) : nxO (some ρ) = some (.nx ρ) := eqI rfl
theorem map_nxO (o : Option Rho) : o.map Ot.nx = nxO o := by cases o <;> rfl
@[simp] theorem asR_d (ρ : Rho) (i : Nat) (d : PyData) : asR ρ i (.dat d) = some (ρ.set i (some (.dat d))) := eqI rfl
@[simp] theorem asR_o (ρ : Rho) (i : Nat) (d : PyData) : asR ρ i (.own d) = some (ρ.set i (some (.own d))) := eqI rfl
@[simp] theorem asR_ob (ρ : Rho) (i : Nat) (d : OD) : asR ρ i (.obj d) = some (ρ.set i (some (.obj d))) := eqI rfl
@[simp] theorem asR_s (ρ : Rho) (i j : Nat) : asR ρ i (.slt j) = (slotD ρ[j]?).map fun d => (ρ.set j (some (.dat d))).set i (some (.dat d)) := by
  show ((slotD ρ[j]?).map _).map _ = _
  rw [Option.map_map]; rfl
@[simp] theorem asgM_e (i : Nat) (f : EM) (ρ : Rho) : asgM i f ρ = bindS (f ρ) fun r ρ1 => nxO (asR ρ1 i r) := by
  unfold asgM; simp only [map_nxO]
def rtO (o : Option (R × Rho)) : Option Ot := match o with
  | some p => some (.rt p.1 p.2)
  | none => none
@[simp] theorem rtO_e (r : R) (ρ : Rho) : rtO (some (r, ρ)) = some (.rt r ρ) := eqI rfl
@[simp] theorem retR_d (n : Nat) (ρ : Rho) (d : PyData) : retR n ρ (.dat d) = some (.dat d, ρ) := eqI rfl
@[simp] theorem retR_o (n : Nat) (ρ : Rho) (d : PyData) : retR n ρ (.own d) = some (.own d, ρ) := eqI rfl
def rtR (n i : Nat) (ρ : Rho) (o : Option (Option R)) : Option (R × Rho) := if i < n then (slotD o).map fun d => (.dat d, ρ.set i (some (.dat d))) else match o with
    | some (some (.own d)) => some (.own d, ρ.set i none)
    | some (some (.dat d)) => some (.dat d, ρ)
    | some (some (.obj d)) => some (.obj d, ρ.set i none)
    | _ => none
@[simp] theorem rtR_ob {n i : Nat} (h : ¬ i < n) (ρ : Rho) (d : OD) : rtR n i ρ (some (some (.obj d))) = some (.obj d, ρ.set i none) := by unfold rtR; rw [if_neg h]
@[simp] theorem rtR_o (n i : Nat) (ρ : Rho) (d : PyData) : rtR n i ρ (some (some (.own d))) = if i < n then some (.dat d, ρ.set i (some (.dat d))) else some (.own d, ρ.set i none) := by unfold rtR; split <;> rfl
@[simp] theorem rtR_d (n i : Nat) (ρ : Rho) (d : PyData) : rtR n i ρ (some (some (.dat d))) = if i < n then some (.dat d, ρ.set i (some (.dat d))) else some (.dat d, ρ) := by unfold rtR; split <;> rfl
@[simp] theorem retR_ob (n : Nat) (ρ : Rho) (d : OD) : retR n ρ (.obj d) = some (.obj d, ρ) := eqI rfl
@[simp] theorem retR_t (n : Nat) (ρ : Rho) (d e : PyData) : retR n ρ (.two d e) = some (.two d e, ρ) := eqI rfl
@[simp] theorem retR_s (n : Nat) (ρ : Rho) (i : Nat) : retR n ρ (.slt i) = rtR n i ρ ρ[i]? := by
  unfold retR rtR; simp only [frz_s, Option.map_map]; rfl
@[simp] theorem retM_e (n : Nat) (f : EM) (ρ : Rho) : retM n f ρ = bindS (f ρ) fun r ρ1 => rtO (retR n ρ1 r) := by
  unfold retM; congr; funext r ρ1; cases retR n ρ1 r <;> rfl
@[simp] theorem retN_e (ρ : Rho) : retN ρ = some (.rt (.dat .none) ρ) := eqI rfl
@[simp] theorem raiseM_e (c : Nat) (ρ : Rho) : raiseM c ρ = some (.er c [] ρ) := eqI rfl
@[simp] theorem isList_e (ds : List PyData) : isList (some (some (.own (.list ds)))) = true := eqI rfl
def appR (i : Nat) (d : PyData) (ρ : Rho) (o : Option (Option R)) : Option Ot := match o with
  | some (some (.own (.list ds))) => if ds.length < lim then some (.nx (ρ.set i (some (.own (.list (ds ++ [d])))))) else none
  | _ => none
@[simp] theorem appR_e (i : Nat) (d : PyData) (ρ : Rho) (ds : List PyData) : appR i d ρ (some (some (.own (.list ds)))) = if ds.length < lim then some (.nx (ρ.set i (some (.own (.list (ds ++ [d])))))) else none := eqI rfl
@[simp] theorem appM_e (i : Nat) (fe : EM) (ρ : Rho) : appM i fe ρ = pick (isList ρ[i]?) (fun ρ => bindS (fe ρ) fun r ρ1 => bindF (frz ρ1 r) fun d ρ2 => appR i d ρ2 ρ2[i]?) (fun _ => none) ρ := eqI rfl
def setR (s : Nat) (d : PyData) (ri : R) (ρ : Rho) (o : Option (Option R)) : Option Ot := match ri, o with
  | .dat (.int k), some (some (.own (.list ds))) => nxO ((ixN ds.length k).map fun j => ρ.set s (some (.own (.list (ds.set j d)))))
  | _, _ => none
@[simp] theorem setR_e (s : Nat) (d : PyData) (k : Int) (ρ : Rho) (ds : List PyData) : setR s d (.dat (.int k)) ρ (some (some (.own (.list ds)))) = nxO ((ixN ds.length k).map fun j => ρ.set s (some (.own (.list (ds.set j d))))) := eqI rfl
@[simp] theorem setM_e (s : Nat) (fi fe : EM) (ρ : Rho) : setM s fi fe ρ = bindS (fe ρ) fun r ρ1 => bindF (frz ρ1 r) fun d ρ2 => pick (isList ρ2[s]?) (fun ρ => bindS (fi ρ) fun ri ρ3 => setR s d ri ρ3 ρ3[s]?) (fun _ => none) ρ2 := by
  unfold setM setR pick bindF
  congr; funext r ρ1; cases frz ρ1 r with
  | none => rfl
  | some p =>
    obtain ⟨d, ρ2⟩ := p
    simp only
    congr; funext ri ρ3
    simp only [← map_nxO, Option.map_map]
    rfl
/-- kept in a slot, then -/
def bindV (o : Option (R × Rho)) (g : R → Rho → Option Ot) : Option Ot := match o with
  | some (d, ρ) => g d ρ
  | none => none
@[simp] theorem bindV_e (d : R) (ρ : Rho) (g : R → Rho → Option Ot) : bindV (some (d, ρ)) g = g d ρ := eqI rfl
@[simp] theorem sv_d (ρ : Rho) (d : PyData) : sv ρ (.dat d) = some (.dat d, ρ) := eqI rfl
@[simp] theorem sv_o (ρ : Rho) (d : PyData) : sv ρ (.own d) = some (.own d, ρ) := eqI rfl
@[simp] theorem sv_s (ρ : Rho) (i : Nat) : sv ρ (.slt i) = (slotD ρ[i]?).map fun d => (.dat d, ρ.set i (some (.dat d))) := by
  show ((slotD ρ[i]?).map _).map _ = _
  rw [Option.map_map]; rfl
@[simp] theorem parM_e (i j : Nat) (fa fb : EM) (ρ : Rho) : parM i j fa fb ρ = bindS (fa ρ) fun r ρ1 => bindV (sv ρ1 r) fun r' ρ2 => bindS (fb ρ2) fun s ρ3 => bindV (sv ρ3 s) fun s' ρ4 => some (.nx ((ρ4.set i (some r')).set j (some s'))) := eqI rfl
@[simp] theorem parM3_e (i j l : Nat) (fa fb fc : EM) (ρ : Rho) : parM3 i j l fa fb fc ρ = bindS (fa ρ) fun r ρ1 => bindV (sv ρ1 r) fun r' ρ2 => bindS (fb ρ2) fun s ρ3 => bindV (sv ρ3 s) fun s' ρ4 => bindS (fc ρ4) fun t ρ5 => bindV (sv ρ5 t) fun t' ρ6 => some (.nx (((ρ6.set i (some r')).set j (some s')).set l (some t'))) := eqI rfl
@[simp] theorem asgTM_e (g : GM) (fe : EM) (ρ : Rho) : asgTM g fe ρ = bindS (fe ρ) fun r ρ1 => bindF (frz ρ1 r) fun d ρ2 => nxO (g d ρ2) := by
  unfold asgTM bindF; simp only [map_nxO] <;> rfl
@[simp] theorem gnM_e (i : Nat) (d : PyData) (ρ : Rho) : gnM i d ρ = some (ρ.set i (some (.dat d))) := eqI rfl
@[simp] theorem gs0_e (ρ : Rho) : gs0 [] ρ = some ρ := eqI rfl
def bindG (o : Option Rho) (g : Rho → Option Rho) : Option Rho := match o with
  | some ρ => g ρ
  | none => none
@[simp] theorem bindG_e (ρ : Rho) (g : Rho → Option Rho) : bindG (some ρ) g = g ρ := eqI rfl
@[simp] theorem gtM_e (gs : GsM) (ds : List PyData) (ρ : Rho) : gtM gs (.tuple ds) ρ = gs ds ρ := eqI rfl
@[simp] theorem itemsOf_l (ds : List PyData) : itemsOf (.list ds) = some ds := eqI rfl
@[simp] theorem itemsOf_t (ds : List PyData) : itemsOf (.tuple ds) = some ds := eqI rfl
def okI (o : Option (List PyData)) (ρ : Rho) : Option (Oe (List PyData)) := match o with
  | some ds => some (.ok ds ρ)
  | none => none
@[simp] theorem okI_e (ds : List PyData) (ρ : Rho) : okI (some ds) ρ = some (.ok ds ρ) := eqI rfl
@[simp] theorem iM_e (f : EM) (ρ : Rho) : iM f ρ = bindO (f ρ) fun r ρ1 => bindF (frz ρ1 r) fun d ρ2 => okI (itemsOf d) ρ2 := by
  unfold iM bindF; congr; funext r ρ1; cases frz ρ1 r with
  | none => rfl
  | some p =>
    obtain ⟨d, ρ2⟩ := p
    show (itemsOf d).map _ = okI (itemsOf d) ρ2
    cases itemsOf d <;> rfl
def rg1 (r : R) (ρ : Rho) : Option (Oe (List PyData)) := match r with
  | .dat (.int j) => if inW j = true then some (.ok (rngL 0 j.toNat) ρ) else none
  | _ => none
theorem rg1_is {j : Int} (ρ : Rho) (h1 : -4611686018427387904 ≤ j) (h2 : j < 4611686018427387904) : rg1 (.dat (.int j)) ρ = some (.ok (rngL 0 j.toNat) ρ) := if_pos (inW_is h1 h2)
@[simp] theorem irM1_e (f : EM) (ρ : Rho) : irM1 f ρ = bindO (f ρ) rg1 := eqI rfl
def rg2 (r s : R) (ρ : Rho) : Option (Oe (List PyData)) := match r, s with
  | .dat (.int i), .dat (.int j) => if inW i = true ∧ inW j = true then some (.ok (rngL i (j - i).toNat) ρ) else none
  | _, _ => none
@[simp] theorem irM2_e (f g : EM) (ρ : Rho) : irM2 f g ρ = bindO (f ρ) fun r ρ1 => bindO (g ρ1) fun s ρ2 => rg2 r s ρ2 := eqI rfl
@[simp] theorem wipeR_0 (ρ : Rho) : wipeR ρ [] = ρ := eqI rfl
@[simp] theorem wipeR_c (ρ : Rho) (v : Nat) (vs : List Nat) : wipeR ρ (v :: vs) = (wipeR ρ vs).set v none := eqI rfl
@[simp] theorem gsC_e (g : GM) (gs : GsM) (d : PyData) (ds : List PyData) (ρ : Rho) : gsC g gs (d :: ds) ρ = bindG (g d ρ) (gs ds) := by
  show (g d ρ).bind (gs ds) = bindG (g d ρ) (gs ds)
  unfold bindG
  cases g d ρ <;> rfl
def bindP (o : Option (List R)) (g : List R → Option (Oe R)) : Option (Oe R) := match o with
  | some a => g a
  | none => none
@[simp] theorem bindP_e (a : List R) (g : List R → Option (Oe R)) : bindP (some a) g = g a := eqI rfl
/-- behind a call -/
def bkO (o : Option (Oe R)) (ρ : Rho) (rs : List R) : Option (Oe R) := match o with
  | some (.ok r os) => some (.ok r (backA ρ rs os))
  | some (.er c fs os) => some (.er c fs (backA ρ rs os))
  | none => none
@[simp] theorem bkO_ok (r : R) (os ρ : Rho) (rs : List R) : bkO (some (.ok r os)) ρ rs = some (.ok r (backA ρ rs os)) := eqI rfl
@[simp] theorem bkO_er (c : Nat) (fs : List PyData) (os ρ : Rho) (rs : List R) : bkO (some (.er c fs os)) ρ rs = some (.er c fs (backA ρ rs os)) := eqI rfl
@[simp] theorem callM_e (sem : Sem) (fa : AM) (ρ : Rho) : callM sem fa ρ = bindO (fa ρ) fun rs ρ1 => pick (dist rs) (fun ρ => bindP (passA ρ rs) fun as => bkO (sem as) ρ rs) (fun _ => none) ρ1 := by
  unfold callM pick bindP bkO
  rfl
@[simp] theorem dist_0 : dist [] = true := eqI rfl
@[simp] theorem dist_d (d : PyData) (rs : List R) : dist (.dat d :: rs) = dist rs := eqI rfl
@[simp] theorem dist_o (d : PyData) (rs : List R) : dist (.own d :: rs) = dist rs := eqI rfl
@[simp] theorem dist_ob' (o : OD) (rs : List R) : dist (.obj o :: rs) = (noOb rs && dist rs) := eqI rfl
@[simp] theorem noOb_0 : noOb [] = true := eqI rfl
@[simp] theorem noOb_d (d : PyData) (rs : List R) : noOb (.dat d :: rs) = noOb rs := eqI rfl
@[simp] theorem noOb_s (i : Nat) (rs : List R) : noOb (.slt i :: rs) = noOb rs := eqI rfl
@[simp] theorem posOf_ob (j : Nat) (o : OD) (rs : List R) : posOf j (.obj o :: rs) = (posOf j rs).map (· + 1) := eqI rfl
@[simp] theorem pass1_led (ρ : Rho) (ts ss : List PyData) : pass1 ρ (.obj (.led ts ss)) = some (.obj (.led ts ss)) := eqI rfl
@[simp] theorem pass1_dsk (ρ : Rho) (ts ss : List PyData) : pass1 ρ (.obj (.dsk ts ss)) = some (.obj (.dsk ts ss)) := eqI rfl
@[simp] theorem pass1_many (ρ : Rho) (b : Bool) (xs : List (Option (List PyData × List PyData))) : pass1 ρ (.obj (.many b xs)) = if xs.all Option.isSome = true then some (.obj (.many b xs)) else none := eqI rfl
@[simp] theorem dist_s (i : Nat) (rs : List R) : dist (.slt i :: rs) = ((posOf i rs).isNone && dist rs) := eqI rfl
@[simp] theorem posOf_0 (j : Nat) : posOf j [] = none := eqI rfl
@[simp] theorem posOf_d (j : Nat) (d : PyData) (rs : List R) : posOf j (.dat d :: rs) = (posOf j rs).map (· + 1) := eqI rfl
@[simp] theorem posOf_s (j i : Nat) (rs : List R) : posOf j (.slt i :: rs) = if (i == j) = true then some 0 else (posOf j rs).map (· + 1) := eqI rfl
@[simp] theorem passA_0 (ρ : Rho) : passA ρ [] = some [] := eqI rfl
def consP (a : Option R) (b : Option (List R)) : Option (List R) := match a, b with
  | some d, some ds => some (d :: ds)
  | _, _ => none
@[simp] theorem consP_e (d : R) (ds : List R) : consP (some d) (some ds) = some (d :: ds) := eqI rfl
@[simp] theorem passA_c (ρ : Rho) (r : R) (rs : List R) : passA ρ (r :: rs) = consP (pass1 ρ r) (passA ρ rs) := eqI rfl
@[simp] theorem pass1_d (ρ : Rho) (d : PyData) : pass1 ρ (.dat d) = some (.dat d) := eqI rfl
def p1 (o : Option (Option R)) : Option R := match o with
    | some (some (.own d)) => some (.own d)
    | some (some (.dat d)) => some (.dat d)
    | some (some (.st xs)) => some (.st xs)
    | some (some (.obj o)) => if okO o = true then some (.obj o) else none
    | _ => none
@[simp] theorem p1_led (ts ss : List PyData) : p1 (some (some (.obj (.led ts ss)))) = some (.obj (.led ts ss)) := eqI rfl
@[simp] theorem p1_dsk (ts ss : List PyData) : p1 (some (some (.obj (.dsk ts ss)))) = some (.obj (.dsk ts ss)) := eqI rfl
@[simp] theorem p1_many (b : Bool) (xs : List (Option (List PyData × List PyData))) : p1 (some (some (.obj (.many b xs)))) = if xs.all Option.isSome = true then some (.obj (.many b xs)) else none := eqI rfl
@[simp] theorem p1_o (d : PyData) : p1 (some (some (.own d))) = some (.own d) := eqI rfl
@[simp] theorem p1_d (d : PyData) : p1 (some (some (.dat d))) = some (.dat d) := eqI rfl
@[simp] theorem p1_s (d : List Int) : p1 (some (some (.st d))) = some (.st d) := eqI rfl
@[simp] theorem pass1_x (ρ : Rho) (c : Nat) (fs : List PyData) : pass1 ρ (.ex c fs) = some (.ex c fs) := eqI rfl
@[simp] theorem pass1_s (ρ : Rho) (i : Nat) : pass1 ρ (.slt i) = p1 ρ[i]? := eqI rfl
/-- a slot behind a call -/
def bk1 (x : Option R) (o : Option Nat) (os : Rho) : Option R := if isOwn x = true then match o with
    | some k => mend x os[k]?.join
    | none => x
  else x
@[simp] theorem mend_n (x : Option R) : mend x none = none := eqI rfl
@[simp] theorem mend_d (x : Option R) (d : PyData) : mend x (some (.dat d)) = some (.dat d) := eqI rfl
@[simp] theorem mend_o (x : Option R) (d : PyData) : mend x (some (.own d)) = some (.own d) := eqI rfl
@[simp] theorem mend_s (x : Option R) (d : List Int) : mend x (some (.st d)) = some (.st d) := eqI rfl
@[simp] theorem mend_ob (o d : OD) : mend (some (.obj o)) (some (.obj d)) = some (.obj d) := eqI rfl
@[simp] theorem bk1_obo (d : OD) (os : Rho) : bk1 (some (.obj d)) none os = some (.obj d) := eqI rfl
@[simp] theorem bk1_obp (d : OD) (k : Nat) (os : Rho) : bk1 (some (.obj d)) (some k) os = mend (some (.obj d)) os[k]?.join := eqI rfl
@[simp] theorem bk1_x (x : Option R) (os : Rho) : bk1 x none os = x := by unfold bk1; split <;> rfl
@[simp] theorem bk1_n (o : Option Nat) (os : Rho) : bk1 none o os = none := eqI rfl
@[simp] theorem bk1_d (d : PyData) (o : Option Nat) (os : Rho) : bk1 (some (.dat d)) o os = some (.dat d) := eqI rfl
@[simp] theorem bk1_o (d : PyData) (os : Rho) : bk1 (some (.own d)) none os = some (.own d) := eqI rfl
@[simp] theorem bk1_p (d : PyData) (k : Nat) (os : Rho) : bk1 (some (.own d)) (some k) os = mend (some (.own d)) os[k]?.join := eqI rfl
@[simp] theorem bk1_so (d : List Int) (os : Rho) : bk1 (some (.st d)) none os = some (.st d) := eqI rfl
@[simp] theorem bk1_sp (d : List Int) (k : Nat) (os : Rho) : bk1 (some (.st d)) (some k) os = mend (some (.st d)) os[k]?.join := eqI rfl
def bkL (rs : List R) (os : Rho) : Nat → Rho → Rho
  | _, [] => []
  | j, x :: xs => bk1 x (posOf j rs) os :: bkL rs os (j + 1) xs
@[simp] theorem bkL_0 (rs : List R) (os : Rho) (j : Nat) : bkL rs os j [] = [] := eqI rfl
@[simp] theorem bkL_c (rs : List R) (os : Rho) (j : Nat) (x : Option R) (xs : Rho) : bkL rs os j (x :: xs) = bk1 x (posOf j rs) os :: bkL rs os (j + 1) xs := eqI rfl
theorem bkL_is (rs : List R) (os : Rho) : ∀ (ρ : Rho) (j : Nat), bkL rs os j ρ = ρ.mapIdx fun i x => bk1 x (posOf (i + j) rs) os
  | [], _ => rfl
  | x :: xs, j => by
    rw [List.mapIdx_cons, bkL_c, bkL_is rs os xs (j + 1), Nat.zero_add]
    congr 1
    congr 1
    funext i y
    rw [Nat.add_assoc, Nat.add_comm 1 j]
@[simp] theorem backA_e (ρ : Rho) (rs : List R) (os : Rho) : backA ρ rs os = bkL rs os 0 ρ := by rw [bkL_is]; rfl
/-- the end of a def's run -/
def fnR (n : Nat) (pr : Nat → Bool) (o : Option Ot) : Option (Oe R) := match o with
    | some (.nx ρ) => some (.ok (.dat .none) (outs n pr ρ))
    | some (.rt r ρ) => some (.ok r (outs n pr ρ))
    | some (.er c fs ρ) => some (.er c fs (outs n pr ρ))
    | _ => none
@[simp] theorem fnR_nx (n : Nat) (pr : Nat → Bool) (ρ : Rho) : fnR n pr (some (.nx ρ)) = some (.ok (.dat .none) (outs n pr ρ)) := eqI rfl
@[simp] theorem fnR_rt (n : Nat) (pr : Nat → Bool) (r : R) (ρ : Rho) : fnR n pr (some (.rt r ρ)) = some (.ok r (outs n pr ρ)) := eqI rfl
@[simp] theorem fnR_er (n : Nat) (pr : Nat → Bool) (c : Nat) (fs : List PyData) (ρ : Rho) : fnR n pr (some (.er c fs ρ)) = some (.er c fs (outs n pr ρ)) := eqI rfl
theorem outs_1 (pr : Nat → Bool) (ρ : Rho) : outs 1 pr ρ = [if pr 0 = true then ρ[0]?.join else none] := rfl
theorem outs_2 (pr : Nat → Bool) (ρ : Rho) : outs 2 pr ρ = [if pr 0 = true then ρ[0]?.join else none, if pr 1 = true then ρ[1]?.join else none] := rfl
theorem outs_3 (pr : Nat → Bool) (ρ : Rho) : outs 3 pr ρ = [if pr 0 = true then ρ[0]?.join else none, if pr 1 = true then ρ[1]?.join else none, if pr 2 = true then ρ[2]?.join else none] := rfl
@[simp] theorem dPlus_i (i j : Int) : dPlus (.int i) (.int j) = some (.dat (.int (i + j))) := eqI rfl
@[simp] theorem dPlus_l (i j : List PyData) : dPlus (.list i) (.list j) = if i.length + j.length ≤ lim then some (.own (.list (i ++ j))) else none := eqI rfl
@[simp] theorem dPlus_t (i j : List PyData) : dPlus (.tuple i) (.tuple j) = if i.length + j.length ≤ lim then some (.dat (.tuple (i ++ j))) else none := eqI rfl
@[simp] theorem dMinus_i (i j : Int) : dMinus (.int i) (.int j) = some (.dat (.int (i - j))) := eqI rfl
@[simp] theorem dMul_i (i j : Int) : dMul (.int i) (.int j) = if i.natAbs.log2 + j.natAbs.log2 < 1000000 then some (.dat (.int (i * j))) else none := eqI rfl
@[simp] theorem dFd_i (i j : Int) : dFd (.int i) (.int j) = if j ≠ 0 ∧ j.natAbs.log2 < 9000 then some (.dat (.int (i.fdiv j))) else none := eqI rfl
@[simp] theorem dMod_i (i j : Int) : dMod (.int i) (.int j) = if j ≠ 0 then some (.dat (.int (i.fmod j))) else none := eqI rfl
@[simp] theorem dNeg_i (i : Int) : dNeg (.int i) = some (.dat (.int (-i))) := eqI rfl
@[simp] theorem dLt_i (i j : Int) : dLt (.int i) (.int j) = some (.dat (.bool (decide (i < j)))) := eqI rfl
@[simp] theorem dLe_i (i j : Int) : dLe (.int i) (.int j) = some (.dat (.bool (decide (i ≤ j)))) := eqI rfl
@[simp] theorem dGt_i (i j : Int) : dGt (.int i) (.int j) = some (.dat (.bool (decide (j < i)))) := eqI rfl
@[simp] theorem dGe_i (i j : Int) : dGe (.int i) (.int j) = some (.dat (.bool (decide (j ≤ i)))) := eqI rfl
@[simp] theorem dIx_l (xs : List PyData) (i : Int) : dIx (.list xs) (.int i) = (atI xs i).map R.dat := eqI rfl
@[simp] theorem dIx_t (xs : List PyData) (i : Int) : dIx (.tuple xs) (.int i) = (atI xs i).map R.dat := eqI rfl
@[simp] theorem dEq_i (i j : Int) : dEq (.int i) (.int j) = some (.dat (.bool (decide (i = j)))) := by
  show (if SeqAt.shaped (.int i) = true ∧ SeqAt.shaped (.int j) = true then some (R.dat (.bool (PyData.eqv (.int i) (.int j)))) else none) = _
  rw [if_pos ⟨rfl, rfl⟩]; rfl
@[simp] theorem dNe_i (i j : Int) : dNe (.int i) (.int j) = some (.dat (.bool (!decide (i = j)))) := by
  show (if SeqAt.shaped (.int i) = true ∧ SeqAt.shaped (.int j) = true then some (R.dat (.bool (!PyData.eqv (.int i) (.int j)))) else none) = _
  rw [if_pos ⟨rfl, rfl⟩]; rfl
@[simp] theorem dEq_s (i j : Str) : dEq (.str i) (.str j) = some (.dat (.bool (decide (i = j)))) := eqI rfl
@[simp] theorem dNe_s (i j : Str) : dNe (.str i) (.str j) = some (.dat (.bool (!decide (i = j)))) := eqI rfl
@[simp] theorem lenD_l (ds : List PyData) : lenD (.list ds) = some (.dat (.int ds.length)) := eqI rfl
@[simp] theorem lenD_t (ds : List PyData) : lenD (.tuple ds) = some (.dat (.int ds.length)) := eqI rfl
@[simp] theorem tupD_l (ds : List PyData) : tupD (.list ds) = some (.dat (.tuple ds)) := eqI rfl
@[simp] theorem tupD_t (ds : List PyData) : tupD (.tuple ds) = some (.dat (.tuple ds)) := eqI rfl
@[simp] theorem lstD_l (ds : List PyData) : lstD (.list ds) = some (.own (.list ds)) := eqI rfl
@[simp] theorem lstD_t (ds : List PyData) : lstD (.tuple ds) = some (.own (.list ds)) := eqI rfl
@[simp] theorem intD_i (i : Int) : intD (.int i) = some (.dat (.int i)) := eqI rfl
@[simp] theorem intD_b (i : Bool) : intD (.bool i) = some (.dat (.int (if i then 1 else 0))) := eqI rfl
@[simp] theorem absD_i (i : Int) : absD (.int i) = some (.dat (.int (if i < 0 then -i else i))) := eqI rfl
@[simp] theorem max2D_i (i j : Int) : max2D (.int i) (.int j) = some (.dat (.int (if j > i then j else i))) := eqI rfl
@[simp] theorem min2D_i (i j : Int) : min2D (.int i) (.int j) = some (.dat (.int (if j < i then j else i))) := eqI rfl
@[simp] theorem sumD_l (ns : List Int) : sumD (.list (ns.map PyData.int)) = some (.dat (.int ns.sum)) := by simp [sumD]
@[simp] theorem sumD_t (ns : List Int) : sumD (.tuple (ns.map PyData.int)) = some (.dat (.int ns.sum)) := by simp [sumD]
@[simp] theorem allD_l (bs : List Bool) : allD (.list (bs.map PyData.bool)) = some (.dat (.bool (bs.all id))) := by simp [allD]
@[simp] theorem anyD_l (bs : List Bool) : anyD (.list (bs.map PyData.bool)) = some (.dat (.bool (bs.any id))) := by simp [anyD]
theorem atI_nn {α : Type} (xs : List α) (i : Int) (h : 0 ≤ i) : atI xs i = xs[i.toNat]? := by
  unfold atI ixN
  rw [if_pos h]
  split
  · rfl
  · rename_i g
    show none = _
    rw [List.getElem?_eq_none]
    omega
@[simp] theorem forM_e (it : IM) (g : GM) (body : SM) (ρ : Rho) : forM it g body ρ = bindS (it ρ) fun ds ρ1 => forL g body ds ρ1 := eqI rfl
@[simp] theorem lcM_e (it : IM) (g : GM) (vs : List Nat) (c : Rho → Option (Oe Bool)) (f : EM) (ρ : Rho) : lcM it g vs c f ρ = bindO (it ρ) fun ds ρ1 => lcL g vs c f ds (wipeR ρ1 vs) [] := eqI rfl
/-- one turn of a loop that goes on -/
def turn (g : GM) (body : SM) (x : PyData) (ρ : Rho) : Option Ot := match g x ρ with
  | none => none
  | some ρ1 => body ρ1
/-- a loop whose every turn goes on: I holds ahead of each -/
theorem forL_inv {g : GM} {body : SM} (I : List PyData → Rho → Prop) : ∀ (xs : List PyData) (ρ : Rho), I xs ρ →
    (∀ x r ρ, I (x :: r) ρ → ∃ ρ1 ρ2, g x ρ = some ρ1 ∧ (body ρ1 = some (.nx ρ2) ∨ body ρ1 = some (.ct ρ2)) ∧ I r ρ2) → ∃ ρ', forL g body xs ρ = some (.nx ρ') ∧ I [] ρ'
  | [], ρ, h, _ => ⟨ρ, rfl, h⟩
  | x :: r, ρ, h, st => by
    obtain ⟨ρ1, ρ2, e1, e2, h2⟩ := st x r ρ h
    obtain ⟨ρ', e3, h3⟩ := forL_inv I r ρ2 h2 st
    refine ⟨ρ', ?_, h3⟩
    show (match g x ρ with | none => none | some ρ1 => match body ρ1 with | some (.nx ρ2) => forL g body r ρ2 | some (.ct ρ2) => forL g body r ρ2 | some (.bk ρ2) => some (.nx ρ2) | o => o) = _
    rw [e1]
    rcases e2 with e2 | e2 <;> (simp only [e2]; exact e3)
/-- a comprehension whose every turn gives one thing: J holds ahead of each, P of what is given -/
theorem lcL_inv {g : GM} {vs : List Nat} {c : Rho → Option (Oe Bool)} {f : EM} (J : List PyData → List PyData → Rho → Prop) : ∀ (xs : List PyData) (ρ : Rho) (acc : List PyData), acc.length + xs.length ≤ lim → J xs acc ρ →
    (∀ x r acc ρ, J (x :: r) acc ρ → ∃ ρ1 ρ2, g x ρ = some ρ1 ∧ ((∃ q ρ3 ρ4 d, c ρ1 = some (.ok true ρ2) ∧ f ρ2 = some (.ok q ρ3) ∧ frz ρ3 q = some (d, ρ4) ∧ J r (acc ++ [d]) (wipeR ρ4 vs)) ∨ (c ρ1 = some (.ok false ρ2) ∧ J r acc (wipeR ρ2 vs)))) →
    ∃ ds ρ', lcL g vs c f xs ρ acc = some (.ok (.own (.list ds)) ρ') ∧ J [] ds ρ'
  | [], ρ, acc, _, h, _ => ⟨acc, ρ, rfl, h⟩
  | x :: r, ρ, acc, hl, h, st => by
    rw [List.length_cons] at hl
    obtain ⟨ρ1, ρ2, e1, z⟩ := st x r acc ρ h
    rcases z with ⟨q, ρ3, ρ4, d, e2, e3, e4, hJ⟩ | ⟨e2, hJ⟩
    · obtain ⟨ds, ρ', e5, h5⟩ := lcL_inv J r (wipeR ρ4 vs) (acc ++ [d]) (by rw [List.length_append]; simp only [List.length_cons, List.length_nil]; omega) hJ st
      refine ⟨ds, ρ', ?_, h5⟩
      unfold lcL
      simp only [e1, e2, e3, e4, bindN_ok, if_true]
      rw [if_pos (by omega)]
      exact e5
    · obtain ⟨ds, ρ', e5, h5⟩ := lcL_inv J r (wipeR ρ2 vs) acc (by omega) hJ st
      refine ⟨ds, ρ', ?_, h5⟩
      unfold lcL
      simp only [e1, e2, bindN_ok]
      exact e5
end DL
namespace DL
open PySem L2
theorem canLayAll_of : ∀ {ds : List PyData}, (∀ d ∈ ds, d.canLay0 = true) → PyData.canLayAll0 ds = true
  | [], _ => by simp [PyData.canLayAll0]
  | d :: r, h => by
    simp only [PyData.canLayAll0, Bool.and_eq_true]
    exact ⟨h d (List.mem_cons_self ..), canLayAll_of fun x hx => h x (List.mem_cons_of_mem _ hx)⟩
theorem depthAll_of {n : Nat} : ∀ {ds : List PyData}, (∀ d ∈ ds, d.depth ≤ n) → PyData.depthAll ds ≤ n
  | [], _ => by simp [PyData.depthAll]
  | d :: r, h => by
    simp only [PyData.depthAll]
    exact Nat.max_le.mpr ⟨h d (List.mem_cons_self ..), depthAll_of fun x hx => h x (List.mem_cons_of_mem _ hx)⟩
theorem showableAll_of : ∀ {ds : List PyData}, (∀ d ∈ ds, d.showable = true) → PyData.showableAll ds = true
  | [], _ => by simp [PyData.showableAll]
  | d :: r, h => by
    simp only [PyData.showableAll, Bool.and_eq_true]
    exact ⟨h d (List.mem_cons_self ..), showableAll_of fun x hx => h x (List.mem_cons_of_mem _ hx)⟩
theorem shownAll_len {n : Nat} : ∀ {ds : List PyData}, (∀ d ∈ ds, d.shown.length ≤ n) → ((PyData.shownAll ds).map (·.length)).sum ≤ n * ds.length ∧ (PyData.shownAll ds).length = ds.length
  | [], _ => by simp [PyData.shownAll]
  | d :: r, h => by
    obtain ⟨a, b⟩ := shownAll_len (ds := r) fun x hx => h x (List.mem_cons_of_mem _ hx)
    have c := h d (List.mem_cons_self ..)
    simp only [PyData.shownAll, List.map_cons, List.sum_cons, List.length_cons, b, Nat.mul_add, Nat.mul_one]
    exact ⟨by omega, trivial⟩
/-- may be compared -/
structure Eqb (m : Nat) (d : PyData) : Prop where
  l : d.canLay0 = true
  p : d.depth ≤ m
theorem Eqb.int (i : Int) : Eqb 0 (.int i) := ⟨rfl, Nat.le_refl 0⟩
theorem Eqb.bool (i : Bool) : Eqb 0 (.bool i) := ⟨rfl, Nat.le_refl 0⟩
theorem Eqb.none : Eqb 0 .none := ⟨rfl, Nat.le_refl 0⟩
theorem Eqb.mono {m n : Nat} {d : PyData} (h : Eqb m d) (l : m ≤ n) : Eqb n d := ⟨h.l, Nat.le_trans h.p l⟩
theorem Eqb.list {m : Nat} {ds : List PyData} (h : ∀ d ∈ ds, Eqb m d) : Eqb (m + 1) (.list ds) :=
  ⟨by simp only [PyData.canLay0]; exact canLayAll_of fun d hd => (h d hd).l, by simp only [PyData.depth]; exact Nat.succ_le_succ (depthAll_of fun d hd => (h d hd).p)⟩
theorem Eqb.tuple {m : Nat} {ds : List PyData} (h : ∀ d ∈ ds, Eqb m d) : Eqb (m + 1) (.tuple ds) :=
  ⟨by simp only [PyData.canLay0]; exact canLayAll_of fun d hd => (h d hd).l, by simp only [PyData.depth]; exact Nat.succ_le_succ (depthAll_of fun d hd => (h d hd).p)⟩
theorem Eqb.shaped {m : Nat} {d : PyData} (h : Eqb m d) (l : m ≤ 64) : SeqAt.shaped d = true := by
  unfold SeqAt.shaped
  rw [h.l, Bool.true_and, decide_eq_true_eq]
  exact Nat.le_trans h.p l
theorem dEq_of {d e : PyData} {m n : Nat} (h : Eqb m d) (h2 : Eqb n e) (l : m ≤ 64) (l2 : n ≤ 64) (ns : ∀ i j, d = .str i → e = .str j → False) : dEq d e = some (.dat (.bool (PyData.eqv d e))) := by
  unfold dEq
  split
  · exact (ns _ _ rfl rfl).elim
  · rw [if_pos ⟨h.shaped l, h2.shaped l2⟩]
/-- may be shown, in at most n signs -/
structure Rp (n m : Nat) (d : PyData) : Prop where
  s : d.showable = true
  l : d.shown.length ≤ n
  p : d.depth ≤ m
theorem Rp.int {i : Int} (h : i.natAbs < 10 ^ 12) : Rp 13 0 (.int i) := by
  refine ⟨?_, PyData.shown_int_le h, Nat.le_refl 0⟩
  simp only [PyData.showable, decide_eq_true_eq]
  by_cases z : i.natAbs = 0
  · rw [z]; decide
  · exact Nat.lt_trans ((Nat.log2_lt z).mpr (Nat.lt_trans h (show 10 ^ 12 < 2 ^ 40 by decide))) (by decide)
theorem Rp.mono {n m n' m' : Nat} {d : PyData} (h : Rp n m d) (l : n ≤ n') (l2 : m ≤ m') : Rp n' m' d := ⟨h.s, Nat.le_trans h.l l, Nat.le_trans h.p l2⟩
theorem Rp.tuple {n m k : Nat} {ds : List PyData} (h : ∀ d ∈ ds, Rp n m d) (hl : ds.length ≤ k) : Rp ((n + 2) * k + 3) (m + 1) (.tuple ds) := by
  refine ⟨?_, ?_, ?_⟩
  · simp only [PyData.showable]; exact showableAll_of fun d hd => (h d hd).s
  · simp only [PyData.shown]
    obtain ⟨a, b⟩ := shownAll_len (n := n) (ds := ds) fun d hd => (h d hd).l
    have c := tupleText_len_le (PyData.shownAll ds)
    rw [b] at c
    have e : (n + 2) * ds.length ≤ (n + 2) * k := Nat.mul_le_mul_left _ hl
    have e' : (n + 2) * ds.length = n * ds.length + 2 * ds.length := Nat.add_mul ..
    omega
  · simp only [PyData.depth]; exact Nat.succ_le_succ (depthAll_of fun d hd => (h d hd).p)
theorem Rp.list {n m k : Nat} {ds : List PyData} (h : ∀ d ∈ ds, Rp n m d) (hl : ds.length ≤ k) : Rp ((n + 2) * k + 3) (m + 1) (.list ds) := by
  refine ⟨?_, ?_, ?_⟩
  · simp only [PyData.showable]; exact showableAll_of fun d hd => (h d hd).s
  · simp only [PyData.shown]
    obtain ⟨a, b⟩ := shownAll_len (n := n) (ds := ds) fun d hd => (h d hd).l
    have c := listText_len_le (PyData.shownAll ds)
    rw [b] at c
    have e : (n + 2) * ds.length ≤ (n + 2) * k := Nat.mul_le_mul_left _ hl
    have e' : (n + 2) * ds.length = n * ds.length + 2 * ds.length := Nat.add_mul ..
    omega
  · simp only [PyData.depth]; exact Nat.succ_le_succ (depthAll_of fun d hd => (h d hd).p)
theorem Rp.reprD {n m : Nat} {d : PyData} (h : Rp n m d) (l : n ≤ lim) (l2 : m ≤ 60) : reprD d = some (.dat (.str d.shown)) := by
  unfold DL.reprD
  rw [if_pos]
  unfold reprOk
  rw [h.s, Bool.true_and, Bool.and_eq_true, decide_eq_true_eq, decide_eq_true_eq]
  exact ⟨Nat.le_trans h.l l, Nat.le_trans h.p l2⟩
theorem log2_lt {i : Int} {n : Nat} (h1 : 0 ≤ i) (h2 : i < 2 ^ n) (hn : 0 < n): i.natAbs.log2 < n := by
  obtain ⟨m, rfl⟩ := Int.eq_ofNat_of_zero_le h1
  rw [Int.natAbs_natCast]
  by_cases h : m = 0
  · subst h; simpa using hn
  · rw [Nat.log2_lt h]
    exact_mod_cast h2
theorem mul_ok {i j : Int} (h1 : 0 ≤ i) (h2 : i < 2 ^ 62) (h3 : 0 ≤ j) (h4 : j < 2 ^ 62) : i.natAbs.log2 + j.natAbs.log2 < 1000000 := by
  have a := log2_lt (n := 62) h1 h2 (by decide)
  have b := log2_lt (n := 62) h3 h4 (by decide)
  omega
theorem mul_is {i j : Int} (h1 : 0 ≤ i) (h2 : i < 2 ^ 62) (h3 : 0 ≤ j) (h4 : j < 2 ^ 62) : dMul (.int i) (.int j) = some (.dat (.int (i * j))) := by
  rw [dMul_i, if_pos (mul_ok h1 h2 h3 h4)]
theorem rngL_length (lo : Int) (n : Nat) : (rngL lo n).length = n := by simp [rngL]
theorem rngL_mem {lo : Int} {n : Nat} {d : PyData} (h : d ∈ rngL lo n) : ∃ k : Nat, k < n ∧ d = .int (lo + k) := by
  simp only [rngL, List.mem_map, List.mem_range] at h
  obtain ⟨k, hk, rfl⟩ := h
  exact ⟨k, hk, rfl⟩
theorem rngL_zero (lo : Int) : rngL lo 0 = [] := rfl
theorem rngL_succ (lo : Int) (n : Nat) : rngL lo (n + 1) = .int lo :: rngL (lo + 1) n := by
  simp only [rngL, List.range_succ_eq_map, List.map_cons, List.map_map]
  congr 1
  · simp
  · apply List.map_congr_left
    intro k _
    simp only [Function.comp]
    congr 1
    simp only [Nat.succ_eq_add_one, Int.natCast_add]
    omega
theorem atI_of {α : Type} {xs : List α} {i : Int} (h : 0 ≤ i) (h2 : i < xs.length) : ∃ x, atI xs i = some x ∧ x ∈ xs := by
  refine ⟨xs[i.toNat]'(by omega), ?_, List.getElem_mem _⟩
  rw [atI_nn _ _ h, List.getElem?_eq_getElem (by omega)]
theorem ix3 {x y z v : Int} (h1 : 0 ≤ v) (h2 : v < 3) : ∃ w, atI [PyData.int x, .int y, .int z] v = some (.int w) ∧ (w = x ∨ w = y ∨ w = z) := by
  have : v = 0 ∨ v = 1 ∨ v = 2 := by omega
  rcases this with rfl | rfl | rfl
  · exact ⟨x, rfl, .inl rfl⟩
  · exact ⟨y, rfl, .inr (.inl rfl)⟩
  · exact ⟨z, rfl, .inr (.inr rfl)⟩
@[simp] theorem isi_int_none : isiD "int" .none = some (.dat (.bool false)) := by
  show (kitB "NoneType" "int").map (fun b => R.dat (.bool b)) = _
  rw [show kitB "NoneType" "int" = some false by decide +kernel]
  rfl
@[simp] theorem isi_int_bool (b : Bool) : isiD "int" (.bool b) = some (.dat (.bool true)) := by
  show (kitB "bool" "int").map (fun b => R.dat (.bool b)) = _
  rw [show kitB "bool" "int" = some true by decide +kernel]
  rfl
@[simp] theorem isi_int_int (i : Int) : isiD "int" (.int i) = some (.dat (.bool true)) := by
  show (kitB "int" "int").map (fun b => R.dat (.bool b)) = _
  rw [show kitB "int" "int" = some true by decide +kernel]
  rfl
@[simp] theorem isi_int_str (x : Str) : isiD "int" (.str x) = some (.dat (.bool false)) := by
  show (kitB "str" "int").map (fun b => R.dat (.bool b)) = _
  rw [show kitB "str" "int" = some false by decide +kernel]
  rfl
@[simp] theorem isi_int_list (xs : List PyData) : isiD "int" (.list xs) = some (.dat (.bool false)) := by
  show (kitB "list" "int").map (fun b => R.dat (.bool b)) = _
  rw [show kitB "list" "int" = some false by decide +kernel]
  rfl
@[simp] theorem isi_int_tuple (xs : List PyData) : isiD "int" (.tuple xs) = some (.dat (.bool false)) := by
  show (kitB "tuple" "int").map (fun b => R.dat (.bool b)) = _
  rw [show kitB "tuple" "int" = some false by decide +kernel]
  rfl
@[simp] theorem isi_int_dict (xs : List (PyData × PyData)) : isiD "int" (.dict xs) = some (.dat (.bool false)) := by
  show (kitB "dict" "int").map (fun b => R.dat (.bool b)) = _
  rw [show kitB "dict" "int" = some false by decide +kernel]
  rfl
@[simp] theorem isi_bool_none : isiD "bool" .none = some (.dat (.bool false)) := by
  show (kitB "NoneType" "bool").map (fun b => R.dat (.bool b)) = _
  rw [show kitB "NoneType" "bool" = some false by decide +kernel]
  rfl
@[simp] theorem isi_bool_bool (b : Bool) : isiD "bool" (.bool b) = some (.dat (.bool true)) := by
  show (kitB "bool" "bool").map (fun b => R.dat (.bool b)) = _
  rw [show kitB "bool" "bool" = some true by decide +kernel]
  rfl
@[simp] theorem isi_bool_int (i : Int) : isiD "bool" (.int i) = some (.dat (.bool false)) := by
  show (kitB "int" "bool").map (fun b => R.dat (.bool b)) = _
  rw [show kitB "int" "bool" = some false by decide +kernel]
  rfl
@[simp] theorem isi_bool_str (x : Str) : isiD "bool" (.str x) = some (.dat (.bool false)) := by
  show (kitB "str" "bool").map (fun b => R.dat (.bool b)) = _
  rw [show kitB "str" "bool" = some false by decide +kernel]
  rfl
@[simp] theorem isi_bool_list (xs : List PyData) : isiD "bool" (.list xs) = some (.dat (.bool false)) := by
  show (kitB "list" "bool").map (fun b => R.dat (.bool b)) = _
  rw [show kitB "list" "bool" = some false by decide +kernel]
  rfl
@[simp] theorem isi_bool_tuple (xs : List PyData) : isiD "bool" (.tuple xs) = some (.dat (.bool false)) := by
  show (kitB "tuple" "bool").map (fun b => R.dat (.bool b)) = _
  rw [show kitB "tuple" "bool" = some false by decide +kernel]
  rfl
@[simp] theorem isi_bool_dict (xs : List (PyData × PyData)) : isiD "bool" (.dict xs) = some (.dat (.bool false)) := by
  show (kitB "dict" "bool").map (fun b => R.dat (.bool b)) = _
  rw [show kitB "dict" "bool" = some false by decide +kernel]
  rfl
@[simp] theorem isi_tuple_none : isiD "tuple" .none = some (.dat (.bool false)) := by
  show (kitB "NoneType" "tuple").map (fun b => R.dat (.bool b)) = _
  rw [show kitB "NoneType" "tuple" = some false by decide +kernel]
  rfl
@[simp] theorem isi_tuple_bool (b : Bool) : isiD "tuple" (.bool b) = some (.dat (.bool false)) := by
  show (kitB "bool" "tuple").map (fun b => R.dat (.bool b)) = _
  rw [show kitB "bool" "tuple" = some false by decide +kernel]
  rfl
@[simp] theorem isi_tuple_int (i : Int) : isiD "tuple" (.int i) = some (.dat (.bool false)) := by
  show (kitB "int" "tuple").map (fun b => R.dat (.bool b)) = _
  rw [show kitB "int" "tuple" = some false by decide +kernel]
  rfl
@[simp] theorem isi_tuple_str (x : Str) : isiD "tuple" (.str x) = some (.dat (.bool false)) := by
  show (kitB "str" "tuple").map (fun b => R.dat (.bool b)) = _
  rw [show kitB "str" "tuple" = some false by decide +kernel]
  rfl
@[simp] theorem isi_tuple_list (xs : List PyData) : isiD "tuple" (.list xs) = some (.dat (.bool false)) := by
  show (kitB "list" "tuple").map (fun b => R.dat (.bool b)) = _
  rw [show kitB "list" "tuple" = some false by decide +kernel]
  rfl
@[simp] theorem isi_tuple_tuple (xs : List PyData) : isiD "tuple" (.tuple xs) = some (.dat (.bool true)) := by
  show (kitB "tuple" "tuple").map (fun b => R.dat (.bool b)) = _
  rw [show kitB "tuple" "tuple" = some true by decide +kernel]
  rfl
@[simp] theorem isi_tuple_dict (xs : List (PyData × PyData)) : isiD "tuple" (.dict xs) = some (.dat (.bool false)) := by
  show (kitB "dict" "tuple").map (fun b => R.dat (.bool b)) = _
  rw [show kitB "dict" "tuple" = some false by decide +kernel]
  rfl
@[simp] theorem isi_str_none : isiD "str" .none = some (.dat (.bool false)) := by
  show (kitB "NoneType" "str").map (fun b => R.dat (.bool b)) = _
  rw [show kitB "NoneType" "str" = some false by decide +kernel]
  rfl
@[simp] theorem isi_str_bool (b : Bool) : isiD "str" (.bool b) = some (.dat (.bool false)) := by
  show (kitB "bool" "str").map (fun b => R.dat (.bool b)) = _
  rw [show kitB "bool" "str" = some false by decide +kernel]
  rfl
@[simp] theorem isi_str_int (i : Int) : isiD "str" (.int i) = some (.dat (.bool false)) := by
  show (kitB "int" "str").map (fun b => R.dat (.bool b)) = _
  rw [show kitB "int" "str" = some false by decide +kernel]
  rfl
@[simp] theorem isi_str_str (x : Str) : isiD "str" (.str x) = some (.dat (.bool true)) := by
  show (kitB "str" "str").map (fun b => R.dat (.bool b)) = _
  rw [show kitB "str" "str" = some true by decide +kernel]
  rfl
@[simp] theorem isi_str_list (xs : List PyData) : isiD "str" (.list xs) = some (.dat (.bool false)) := by
  show (kitB "list" "str").map (fun b => R.dat (.bool b)) = _
  rw [show kitB "list" "str" = some false by decide +kernel]
  rfl
@[simp] theorem isi_str_tuple (xs : List PyData) : isiD "str" (.tuple xs) = some (.dat (.bool false)) := by
  show (kitB "tuple" "str").map (fun b => R.dat (.bool b)) = _
  rw [show kitB "tuple" "str" = some false by decide +kernel]
  rfl
@[simp] theorem isi_str_dict (xs : List (PyData × PyData)) : isiD "str" (.dict xs) = some (.dat (.bool false)) := by
  show (kitB "dict" "str").map (fun b => R.dat (.bool b)) = _
  rw [show kitB "dict" "str" = some false by decide +kernel]
  rfl
@[simp] theorem isi_list_none : isiD "list" .none = some (.dat (.bool false)) := by
  show (kitB "NoneType" "list").map (fun b => R.dat (.bool b)) = _
  rw [show kitB "NoneType" "list" = some false by decide +kernel]
  rfl
@[simp] theorem isi_list_bool (b : Bool) : isiD "list" (.bool b) = some (.dat (.bool false)) := by
  show (kitB "bool" "list").map (fun b => R.dat (.bool b)) = _
  rw [show kitB "bool" "list" = some false by decide +kernel]
  rfl
@[simp] theorem isi_list_int (i : Int) : isiD "list" (.int i) = some (.dat (.bool false)) := by
  show (kitB "int" "list").map (fun b => R.dat (.bool b)) = _
  rw [show kitB "int" "list" = some false by decide +kernel]
  rfl
@[simp] theorem isi_list_str (x : Str) : isiD "list" (.str x) = some (.dat (.bool false)) := by
  show (kitB "str" "list").map (fun b => R.dat (.bool b)) = _
  rw [show kitB "str" "list" = some false by decide +kernel]
  rfl
@[simp] theorem isi_list_list (xs : List PyData) : isiD "list" (.list xs) = some (.dat (.bool true)) := by
  show (kitB "list" "list").map (fun b => R.dat (.bool b)) = _
  rw [show kitB "list" "list" = some true by decide +kernel]
  rfl
@[simp] theorem isi_list_tuple (xs : List PyData) : isiD "list" (.tuple xs) = some (.dat (.bool false)) := by
  show (kitB "tuple" "list").map (fun b => R.dat (.bool b)) = _
  rw [show kitB "tuple" "list" = some false by decide +kernel]
  rfl
@[simp] theorem isi_list_dict (xs : List (PyData × PyData)) : isiD "list" (.dict xs) = some (.dat (.bool false)) := by
  show (kitB "dict" "list").map (fun b => R.dat (.bool b)) = _
  rw [show kitB "dict" "list" = some false by decide +kernel]
  rfl
@[simp] theorem isi_dict_none : isiD "dict" .none = some (.dat (.bool false)) := by
  show (kitB "NoneType" "dict").map (fun b => R.dat (.bool b)) = _
  rw [show kitB "NoneType" "dict" = some false by decide +kernel]
  rfl
@[simp] theorem isi_dict_bool (b : Bool) : isiD "dict" (.bool b) = some (.dat (.bool false)) := by
  show (kitB "bool" "dict").map (fun b => R.dat (.bool b)) = _
  rw [show kitB "bool" "dict" = some false by decide +kernel]
  rfl
@[simp] theorem isi_dict_int (i : Int) : isiD "dict" (.int i) = some (.dat (.bool false)) := by
  show (kitB "int" "dict").map (fun b => R.dat (.bool b)) = _
  rw [show kitB "int" "dict" = some false by decide +kernel]
  rfl
@[simp] theorem isi_dict_str (x : Str) : isiD "dict" (.str x) = some (.dat (.bool false)) := by
  show (kitB "str" "dict").map (fun b => R.dat (.bool b)) = _
  rw [show kitB "str" "dict" = some false by decide +kernel]
  rfl
@[simp] theorem isi_dict_list (xs : List PyData) : isiD "dict" (.list xs) = some (.dat (.bool false)) := by
  show (kitB "list" "dict").map (fun b => R.dat (.bool b)) = _
  rw [show kitB "list" "dict" = some false by decide +kernel]
  rfl
@[simp] theorem isi_dict_tuple (xs : List PyData) : isiD "dict" (.tuple xs) = some (.dat (.bool false)) := by
  show (kitB "tuple" "dict").map (fun b => R.dat (.bool b)) = _
  rw [show kitB "tuple" "dict" = some false by decide +kernel]
  rfl
@[simp] theorem isi_dict_dict (xs : List (PyData × PyData)) : isiD "dict" (.dict xs) = some (.dat (.bool true)) := by
  show (kitB "dict" "dict").map (fun b => R.dat (.bool b)) = _
  rw [show kitB "dict" "dict" = some true by decide +kernel]
  rfl
def bindR {β : Type} (o : Option Rho) (g : Rho → Option β) : Option β := match o with
  | some ρ => g ρ
  | none => none
@[simp] theorem bindR_e {β : Type} (ρ : Rho) (g : Rho → Option β) : bindR (some ρ) g = g ρ := eqI rfl
/-- what a turn gives, and the slots behind it -/
def ev (g : GM) (vs : List Nat) (c : Rho → Option (Oe Bool)) (f : EM) (x : PyData) (ρ : Rho) : Option (Option PyData × Rho) :=
  bindR (g x ρ) fun ρ1 => bindN (c ρ1) fun b ρ2 => pick b (fun ρ2 => bindN (f ρ2) fun q ρ3 => bindF (frz ρ3 q) fun d ρ4 => some (some d, wipeR ρ4 vs)) (fun ρ2 => some (none, wipeR ρ2 vs)) ρ2
theorem lcL_ev {g : GM} {vs : List Nat} {c : Rho → Option (Oe Bool)} {f : EM} (x : PyData) (xs : List PyData) (ρ : Rho) (acc : List PyData) {o : Option PyData} {ρ' : Rho} (h : ev g vs c f x ρ = some (o, ρ')) (hl : acc.length < lim) :
    lcL g vs c f (x :: xs) ρ acc = lcL g vs c f xs ρ' (acc ++ o.toList) := by
  unfold ev at h
  rw [lcL]
  cases e1 : g x ρ with
  | none => rw [e1] at h; cases h
  | some ρ1 =>
    rw [e1, bindR_e] at h
    simp only
    cases e2 : c ρ1 with
    | none => rw [e2] at h; cases h
    | some oc =>
      cases oc with
      | er _ _ _ => rw [e2] at h; cases h
      | ok b ρ2 =>
        rw [e2, bindN_ok] at h
        rw [bindN_ok]
        cases b with
        | false =>
          rw [pick_f] at h
          cases h
          simp
        | true =>
          rw [pick_t] at h
          rw [if_pos rfl]
          cases e3 : f ρ2 with
          | none => rw [e3] at h; cases h
          | some oq =>
            cases oq with
            | er _ _ _ => rw [e3] at h; cases h
            | ok q ρ3 =>
              rw [e3, bindN_ok] at h
              rw [bindN_ok]
              cases e4 : frz ρ3 q with
              | none => rw [e4] at h; cases h
              | some pr =>
                obtain ⟨d, ρ4⟩ := pr
                rw [e4, bindF_e] at h
                cases h
                simp only
                rw [if_pos hl]
                rfl
/-- a comprehension whose turns leave the slots as they were -/
theorem lcL_fm {α : Type} {g : GM} {vs : List Nat} {c : Rho → Option (Oe Bool)} {f : EM} {ρ : Rho} (inD : α → PyData) (out : α → Option PyData) (xs : List α) (hl : xs.length ≤ lim)
    (st : ∀ x ∈ xs, ev g vs c f (inD x) ρ = some (out x, ρ)) : lcL g vs c f (xs.map inD) ρ [] = some (.ok (.own (.list (xs.filterMap out))) ρ) := by
  have key : ∀ (xs : List α) (acc : List PyData), acc.length + xs.length ≤ lim → (∀ x ∈ xs, ev g vs c f (inD x) ρ = some (out x, ρ)) →
      lcL g vs c f (xs.map inD) ρ acc = some (.ok (.own (.list (acc ++ xs.filterMap out))) ρ) := by
    intro xs
    induction xs with
    | nil => intro acc _ _; rw [List.map_nil, List.filterMap_nil, List.append_nil]; rfl
    | cons x r ih =>
      intro acc hl st
      rw [List.length_cons] at hl
      rw [List.map_cons, lcL_ev _ _ _ _ (st x (List.mem_cons_self ..)) (by omega)]
      have : (out x).toList.length ≤ 1 := by cases out x <;> simp
      rw [ih _ (by rw [List.length_append]; omega) fun y hy => st y (List.mem_cons_of_mem _ hy), List.append_assoc]
      cases h : out x <;> simp [h]
  have := key xs [] (by simpa using hl) st
  simpa using this
theorem lcL_mp {α : Type} {g : GM} {vs : List Nat} {c : Rho → Option (Oe Bool)} {f : EM} {ρ : Rho} (inD out : α → PyData) (xs : List α) (hl : xs.length ≤ lim)
    (st : ∀ x ∈ xs, ev g vs c f (inD x) ρ = some (some (out x), ρ)) : lcL g vs c f (xs.map inD) ρ [] = some (.ok (.own (.list (xs.map out))) ρ) := by
  rw [lcL_fm inD (fun x => some (out x)) xs hl st, List.filterMap_eq_map']
end DL
namespace DL
open PySem L2 PyProof.Rows PpSet
section
variable {X : Cx}
/-- an int goes into the set at D -/
theorem put_in {pins : List (Addr × Obj)} {σ : L2.St} {G : Hp} {t : Shared} {E : Value → Shared → Prop} {D : Addr} {S : Int → Bool} {n : Nat} {k : Int} {u : Value} {Q : Value → Shared → Prop} (J : L2.Inv X pins σ G t) (hD : G D = some (SetO X.w D S n)) (room : n + 1 < scanBound) (hu : L2.RelV (.int k) u)
    (q : ∀ t', L2.Inv X pins σ (upd G D (SetO X.w D (fun j => S j || decide (j = k)) (if S k = true then n else n + 1))) t' → Q .none t') : wpAny (model X.prog X.w) X.A (call (.builtin "set.add") [.ref D, u]) Q E t := by
  obtain ⟨tk, rfl⟩ := hu
  refine setR_add (setO_get J hD) room fun h' sb nw => q _ ?_
  obtain ⟨o, _, _, _, ho, _⟩ := id nw
  exact J.write (e := D) (t' := t.toks + 1) (by rw [hD]; trivial) (.inl rfl) (fun b v hb hv => (sb.2 b hb).trans hv) ⟨o, ho⟩ (setO_new nw)
/-- what a set comprehension of ints does; D the new set -/
def tSi (w : World) (wi : TI) (g : TG) (tt : TT) (te : TE) (vs : List Nat) : TE := fun σ H Q => wi σ H fun J H1 => ∀ D, H1 D = none → ∃ V : Nat → Nat → Hp → Prop, (∃ m, V 0 m (upd H1 D (SetO w D (fun _ => false) 0))) ∧
  ∀ i m H, V i m H → (J.stop i H ∧ Q (.ref D) H) ∨ (J.go i H ∧ ∃ N : Hp → Prop, (∀ H', N H' → ∃ m', m' < m ∧ V (i + 1) m' H') ∧
    ∀ x H', J.yld i H x H' → g x (wipe σ vs) H' fun σ2 H2 => wipe σ2 vs = wipe σ vs ∧ tt σ2 H2 fun b H3 => if b = true then te σ2 H3 fun y H4 => ∃ (k : Int) (S : Int → Bool) (n : Nat), y = .int k ∧ H4 D = some (SetO w D S n) ∧ n + 1 < scanBound ∧ N (upd H4 D (SetO w D (fun j => S j || decide (j = k)) (if S k = true then n else n + 1))) else N H3)
variable {elt tg iter : Expr} {ifs : List Expr} {scope : Scope} {own : List (PySem.Str × Nat)} {pos : Pos} {wi : TI} {g : TG} {tt : TT} {te : TE}
/-- the loop itself, its block laid out -/
theorem si_loop {pins : List (Addr × Obj)} {t0 t1 : Shared} {σ : L2.St} {G0 : Hp} {ce : Env} {fp : List Addr} {it D : Addr} {tn : Nat → Heap → Prop} {J : It} {V : Nat → Nat → Hp → Prop} {m0 : Nat} {Q : VK} {R : Result → Shared → Prop} (hc : X.calm = true)
    (T : Turn X.prog X.w X.K tg J fp it tn) (J0 : L2.Inv X pins σ G0 t0) (f0 : ∀ b ∈ fp, FpOk X pins G0 b ∧ b < t0.heap.objs.size) (cL : ce.locals = t0.heap.objs.size) (J1 : L2.Inv (X.blk t0 G0 scope ce fp) [] (wipe σ (own.map (·.2))) G0 t1) (s1 : tn 0 t1.heap) (v0 : V 0 m0 G0)
    (pg : PG (X.blk t0 G0 scope ce fp) tg g) (pt : PTs (X.blk t0 G0 scope ce fp) ifs tt) (pe : PE (X.blk t0 G0 scope ce fp) elt te)
    (turn : ∀ i m H, V i m H → (J.stop i H ∧ Q (.ref D) H) ∨ (J.go i H ∧ ∃ N : Hp → Prop, (∀ H', N H' → ∃ m', m' < m ∧ V (i + 1) m' H') ∧
      ∀ x H', J.yld i H x H' → g x (wipe σ (own.map (·.2))) H' fun σ2 H2 => wipe σ2 (own.map (·.2)) = wipe σ (own.map (·.2)) ∧ tt σ2 H2 fun b H3 => if b = true then te σ2 H3 fun y H4 => ∃ (k : Int) (S : Int → Bool) (n : Nat), y = .int k ∧ H4 D = some (SetO X.w D S n) ∧ n + 1 < scanBound ∧ N (upd H4 D (SetO X.w D (fun j => S j || decide (j = k)) (if S k = true then n else n + 1))) else N H3))
    (fin : ∀ t' m H', L2.Inv X pins σ H' t' → Q (.ref D) H' → t'.heap.Ns t0.heap.objs.size m → FpOk X pins H' t0.heap.objs.size → R (.ok .next) t') :
    codeAny (model X.prog X.w) X.A (.compLoop (.SetComp elt [⟨tg, iter, ifs, 0⟩] scope pos) 0 (.ref it) (.ref D) ce) R t1 := by
  have still : ∀ {τ : L2.St} {G : Hp} {t : Shared}, L2.Inv (X.blk t0 G0 scope ce fp) [] τ G t → (∀ b ∈ fp, G b = none) → ∀ b ∈ fp, FpOk (X.blk t0 G0 scope ce fp) [] G b := fun {τ G t} K hn b hb => by
    have z := K.ok.exf b hb
    exact ⟨hn b hb, z.1, K.ok.exfs b hb, .inl hb, fun x c e => z.2 x c e, fun p hp => absurd (show p ∈ ([] : List (Addr × Obj)) ++ [] from hp) (by simp)⟩
  refine compLoopS_any (fun m t => ∃ i G, L2.Inv (X.blk t0 G0 scope ce fp) [] (wipe σ (own.map (·.2))) G t ∧ tn i t.heap ∧ (∀ b ∈ fp, G b = none) ∧ V i m G) ?_ m0 ⟨0, G0, J1, s1, fun b hb => (f0 b hb).1.1, v0⟩
  rintro m t2 ⟨i, G2, J2, st2, nf, v2⟩
  rcases turn i m G2 v2 with ⟨stop, hq⟩ | ⟨go, N, hN, step⟩
  · refine thnF (T.done (X.blk t0 G0 scope ce fp) rfl rfl rfl hc i [] t2 _ G2 (fun _ _ => False) J2 (still J2 nf) st2 stop) fun r t3 ⟨er, J3⟩ => ?_
    subst er
    have back : L2.Inv X pins σ G2 t3 := J0.call' (ch := fp) J3.os J3.base J3.hok J3.bare fun b hb => by
      obtain ⟨_, z1, _, z3, z4, z5⟩ := (f0 b hb).1
      exact ⟨z3, z1, z4, z5⟩
    have nC : G2 t0.heap.objs.size = none := cL ▸ (J3.free : G2 ce.locals = none)
    obtain ⟨nm, hn, _⟩ := J3.loc
    have hn' : t3.heap.Ns ce.locals nm := hn
    rw [cL] at hn'
    exact fin t3 nm G2 back hq hn' (J0.fpOk (Nat.le_refl _) nC)
  · refine thnF (T.item (X.blk t0 G0 scope ce fp) rfl rfl rfl hc i [] t2 _ G2 (fun _ _ => False) J2 (still J2 nf) st2 go) fun r t3 ⟨u, er, w3⟩ => ?_
    subst er
    refine thnF w3 fun _ t4 ⟨x, G4, J4, rx, yl, st4, n4⟩ => ?_
    have J4p := J4.pinned (still J4 n4) (T.obj _ _ st4)
    refine thnF (pg.run _ t4 _ G4 x u _ J4p rx (step x G4 yl)) fun _ t5 ⟨σ5, G5, J5, hw5, q5⟩ => ?_
    refine thnF (pt.run _ t5 σ5 G5 _ J5 q5) fun b t6 ⟨G6, J6, q6⟩ => ?_
    have close : ∀ {t' : Shared} {G' : Hp}, L2.Inv (X.blk t0 G0 scope ce fp) ([] ++ pinsAt fp t4.heap) σ5 G' t' → N G' → ∃ m', m' < m ∧ ∃ i G, L2.Inv (X.blk t0 G0 scope ce fp) [] (wipe σ (own.map (·.2))) G t' ∧ tn i t'.heap ∧ (∀ b ∈ fp, G b = none) ∧ V i m' G := fun {t' G'} J' hn => by
      obtain ⟨m', hm, v'⟩ := hN G' hn
      have pin : ∀ b ∈ fp, ∀ o, t4.heap.get? b = some o → t'.heap.get? b = some o ∧ G' b = none := fun b hb o e => by
        have z := J'.pin (b, o) (List.mem_append_right _ (List.mem_append_right _ (mem_pinsAt hb e)))
        exact ⟨z.1, z.2.1⟩
      have len : (wipe σ (own.map (·.2))).length = σ5.length := by rw [← hw5, wipe_length]
      refine ⟨m', hm, i + 1, G', J'.unpinned.weak len (fun j v e => ?_), T.keep _ _ _ st4 fun b hb o e => (pin b hb o e).1, fun b hb => ?_, v'⟩
      · exact (wipe_some (hw5 ▸ e)).1
      · obtain ⟨o, e, _⟩ := T.obj _ _ st4 b hb
        exact (pin b hb o e).2
    cases b with
    | false => exact close J6 q6
    | true =>
      refine thnF (pe.run _ t6 σ5 G6 _ J6 q6) fun z t7 ⟨y, G7, J7, r7, k, S, n, ey, hD, room, hn⟩ => ?_
      subst ey
      exact put_in (X := X.blk t0 G0 scope ce fp) J7 hD room r7 fun t8 J8 => close J8 hn
/-- the set comprehension as a value -/
theorem pe_si (hc : X.calm = true) (hN : X.N.Nodup) (hi : PI X tg iter wi) (ok : BlkOk X.N X.env.scope scope own)
    (hg : ∀ (s : Shared) (H : Hp) (C : Addr) (cl : List (PySem.Str × Addr)) (fp : List Addr), PG (X.blk s H scope (compEnvC scope cl C X.env) fp) tg g)
    (ht : ∀ (s : Shared) (H : Hp) (C : Addr) (cl : List (PySem.Str × Addr)) (fp : List Addr), PTs (X.blk s H scope (compEnvC scope cl C X.env) fp) ifs tt)
    (he : ∀ (s : Shared) (H : Hp) (C : Addr) (cl : List (PySem.Str × Addr)) (fp : List Addr), PE (X.blk s H scope (compEnvC scope cl C X.env) fp) elt te)
    (hs : ∀ x, foldedSetIterable iter X.env x = pure x := by intro _; rfl) : PE X (.SetComp elt [⟨tg, iter, ifs, 0⟩] scope pos) (tSi X.w wi g tt te (own.map (·.2))) := by
  refine ⟨fun pins s σ H Q I h => ?_⟩
  have cells : ∀ y ∈ scope.names, y.2 = .free → ∃ c, X.env.cells.lookup y.1 = some c := fun y hy e => I.ok.has _ (ok.free y hy e)
  rw [eval_SetComp]
  refine wpAny_comprehension_free rfl hs (closure_ok cells) ok.kind (fun y hy e => by rw [ok.uniq y hy, e]) (thn (hi.run pins s σ H _ I h) fun xv s1 hx => thn hx fun itv s2 ⟨it, fp, tn, J, H2, ei, I2, T, st2, f2, q⟩ => ?_)
  subst ei
  refine newSet_ok (newEnv_comp ?_)
  have nD : H2 s2.heap.objs.size = none := I2.hok.fresh (Nat.le_refl _)
  obtain ⟨V, ⟨m0, v0⟩, turn⟩ := q _ nD
  have I3 : L2.Inv X pins σ (upd H2 s2.heap.objs.size (SetO X.w s2.heap.objs.size (fun _ => false) 0)) { s2 with heap := s2.heap.push { cls := .type "set", dict := none, data := .set #[] 0 (.fresh 0 0 (!X.w.params.followText "set-order")) } } :=
    I2.laid (t' := s2.toks) (fun b o e => Heap.get?_push_of_some _ e) (Nat.le_refl _) (setO_new (setR_fresh X.w))
  have f3 : ∀ b ∈ fp, FpOk X pins (upd H2 s2.heap.objs.size (SetO X.w s2.heap.objs.size (fun _ => false) 0)) b ∧ b < (s2.heap.push { cls := .type "set", dict := none, data := .set #[] 0 (.fresh 0 0 (!X.w.params.followText "set-order")) }).objs.size := fun b hb => by
    obtain ⟨o, e, _⟩ := T.obj _ _ st2 b hb
    have lt := Heap.lt_size e
    exact ⟨⟨by rw [upd_ne (Nat.ne_of_lt lt)]; exact (f2 b hb).1, (f2 b hb).2⟩, by rw [Heap.size_push]; exact Nat.lt_succ_of_lt lt⟩
  have J4 := block_start I3 ok hN f3
  have st4 := T.keep _ _ _ st2 fun b _ o e => pushCells_keeps scope.names _ _ _ (Heap.get?_push_of_some { cls := .type "dict", data := .dict #[] } (Heap.get?_push_of_some { cls := .type "set", dict := none, data := .set #[] 0 (.fresh 0 0 (!X.w.params.followText "set-order")) } e))
  have lp := si_loop (iter := iter) (pos := pos) (R := compPost (model X.prog X.w) X.A X.xe none (EP X pins σ Q) (.ref s2.heap.objs.size) _) hc T I3 f3 rfl J4 st4 v0 (hg _ _ _ _ _) (ht _ _ _ _ _) (he _ _ _ _ _) turn fun t' m H' J' hq hn f => ⟨m, hn, fun h'' sb => ?_⟩
  · exact codeAny_compStart_set lp (T.self X.A 0 _ _ _ st4 lp)
  · obtain ⟨f0, f1, f2, f3, f4, f5⟩ := f
    exact ⟨.ref _, H', J'.turned (t' := t'.toks) (fun b o hb e => (sb.2 b hb).trans e) f0 f1 f3 f4 f5, rfl, hq⟩
end
end DL
namespace DL
open PySem L2 PyProof.Rows
def addK (acc : List Int) (k : Int) : List Int := if k ∈ acc then acc else acc ++ [k]
theorem addK_nodup {acc : List Int} {k : Int} (h : acc.Nodup) : (addK acc k).Nodup := by
  unfold addK
  split
  · exact h
  · rename_i hk
    rw [List.nodup_append]
    exact ⟨h, by simp, fun a ha b hb e => by rw [List.mem_singleton] at hb; exact hk (hb ▸ e ▸ ha)⟩
theorem addK_mem {acc : List Int} {k j : Int} : j ∈ addK acc k ↔ j ∈ acc ∨ j = k := by
  unfold addK
  split
  · rename_i hk
    exact ⟨.inl, fun h => h.elim id fun e => e ▸ hk⟩
  · simp
/-- in rising order, each once -/
def insU (k : Int) : List Int → List Int
  | [] => [k]
  | x :: r => if k < x then k :: x :: r else if k = x then x :: r else x :: insU k r
def sortU : List Int → List Int
  | [] => []
  | k :: r => insU k (sortU r)
theorem insU_mem {k j : Int} : ∀ {l : List Int}, j ∈ insU k l ↔ j = k ∨ j ∈ l
  | [] => by simp [insU]
  | x :: r => by
    unfold insU
    split
    · simp
    · split
      · rename_i e
        subst e
        simp
      · rw [List.mem_cons, insU_mem, List.mem_cons]
        constructor
        · rintro (h | h | h)
          · exact .inr (.inl h)
          · exact .inl h
          · exact .inr (.inr h)
        · rintro (h | h | h)
          · exact .inr (.inl h)
          · exact .inl h
          · exact .inr (.inr h)
theorem insU_pw {k : Int} : ∀ {l : List Int}, l.Pairwise (· < ·) → (insU k l).Pairwise (· < ·)
  | [], _ => by simp [insU]
  | x :: r, h => by
    rw [List.pairwise_cons] at h
    unfold insU
    split
    · rename_i hk
      rw [List.pairwise_cons, List.pairwise_cons]
      refine ⟨fun y hy => ?_, h.1, h.2⟩
      rcases List.mem_cons.mp hy with e | e
      · omega
      · have := h.1 y e
        omega
    · split
      · rw [List.pairwise_cons]; exact h
      · rw [List.pairwise_cons]
        refine ⟨fun y hy => ?_, insU_pw h.2⟩
        rcases insU_mem.mp hy with e | e
        · omega
        · exact h.1 y e
theorem sortU_mem {j : Int} : ∀ {l : List Int}, j ∈ sortU l ↔ j ∈ l
  | [] => by simp [sortU]
  | x :: r => by rw [sortU, insU_mem, sortU_mem, List.mem_cons]
theorem sortU_pw : ∀ {l : List Int}, (sortU l).Pairwise (· < ·)
  | [] => by simp [sortU]
  | x :: r => insU_pw sortU_pw
theorem pw_eq : ∀ {a b : List Int}, a.Pairwise (· < ·) → b.Pairwise (· < ·) → (∀ k, k ∈ a ↔ k ∈ b) → a = b
  | [], [], _, _, _ => rfl
  | [], y :: b, _, _, h => absurd ((h y).mpr (List.mem_cons_self ..)) (by simp)
  | x :: a, [], _, _, h => absurd ((h x).mp (List.mem_cons_self ..)) (by simp)
  | x :: a, y :: b, ha, hb, h => by
    rw [List.pairwise_cons] at ha hb
    have e : x = y := by
      rcases List.mem_cons.mp ((h x).mp (List.mem_cons_self ..)) with e | e
      · exact e
      · rcases List.mem_cons.mp ((h y).mpr (List.mem_cons_self ..)) with e' | e'
        · exact e'.symm
        · have := hb.1 x e
          have := ha.1 y e'
          omega
    subst e
    rw [pw_eq ha.2 hb.2 fun k => ?_]
    constructor
    · intro hk
      rcases List.mem_cons.mp ((h k).mp (List.mem_cons_of_mem _ hk)) with e | e
      · have := ha.1 k hk
        omega
      · exact e
    · intro hk
      rcases List.mem_cons.mp ((h k).mpr (List.mem_cons_of_mem _ hk)) with e | e
      · have := hb.1 k hk
        omega
      · exact e
def scL (g : GM) (vs : List Nat) (c : Rho → Option (Oe Bool)) (f : EM) : List PyData → Rho → List Int → Option (Oe R)
  | [], ρ, acc => some (.ok (.st acc) ρ)
  | x :: xs, ρ, acc => match g x ρ with
    | none => none
    | some ρ1 => bindN (c ρ1) fun b ρ2 => if b = true then bindN (f ρ2) fun r ρ3 => match r with
        | .dat (.int k) => if acc.length < 100 then scL g vs c f xs (wipeR ρ3 vs) (addK acc k) else none
        | _ => none
      else scL g vs c f xs (wipeR ρ2 vs) acc
def scM (it : IM) (g : GM) (vs : List Nat) (c : Rho → Option (Oe Bool)) (f : EM) : EM := fun ρ => bindO (it ρ) fun ds ρ1 => scL g vs c f ds (wipeR ρ1 vs) []
/-- sorted(a set) -/
def srtR (r : R) (ρ : Rho) : Option (Oe R) := match r with
  | .st xs => if xs.length < 64 then some (.ok (.own (.list ((sortU xs).map .int))) ρ) else none
  | _ => none
def sortSM (f : EM) : EM := fun ρ => bindO (f ρ) srtR
section
variable {X : Cx} {T : Tb} {W : WX} {pr : Nat → Bool} {it : IM} {g : GM} {vs : List Nat} {c : Rho → Option (Oe Bool)} {f : EM}
theorem setAt_add {w : World} {D : Addr} {S : Int → Bool} {acc : List Int} {k : Int} {H : Hp} (hn : acc.Nodup) (hS : ∀ j, S j = true ↔ j ∈ acc) : SetAt w (upd H D (SetO w D (fun j => S j || decide (j = k)) (if S k = true then acc.length else acc.length + 1))) D (addK acc k) := by
  refine ⟨fun j => S j || decide (j = k), ?_, addK_nodup hn, fun j => ?_⟩
  · rw [upd_same]
    have : (addK acc k).length = if S k = true then acc.length else acc.length + 1 := by
      unfold addK
      by_cases h : S k = true
      · rw [if_pos ((hS k).mp h), if_pos h]
      · rw [if_neg (fun z => h ((hS k).mpr z)), if_neg h, List.length_append]; rfl
    rw [this]
  · rw [Bool.or_eq_true, decide_eq_true_eq, hS j, addK_mem]
theorem sc_of {σ : L2.St} {H : Hp} {Q : VK} (hpr : ∀ i, i ∉ vs → pr i = true) (h : Tof T W (tlE T) (scM it g vs c f) σ H Q) : tSi T.w (Tof T W (tlI T) it) (TGof T pr g) (Tof T W0 tlB c) (Tof T W0 (tlE T) f) vs σ H Q := by
  obtain ⟨ρ, F, O, E, P⟩ := h
  refine stp .refl E P fun J H1 ds ρ1 F1 O1 x1 y1 E1 r1 P1 => ?_
  intro D hD
  have hDB : H D = none := y1.live D hD
  obtain ⟨Ow, Ew, sw⟩ := E1.wiped (vs := vs)
  refine ⟨fun i m H' => ∃ ρ' F' O' acc, m = ds.length - i ∧ i ≤ ds.length ∧ Ext false H F O H' F' O' ∧ EnvR T H' F' O' (wipe σ vs) ρ' ∧ SetAt T.w H' D acc ∧ ¬ F' D ∧ (∀ j, D ∉ O' j) ∧ Kept F1 H1 H' ∧ (∀ b, F1 b → F' b) ∧ Post T W (tlE T) σ H F O Q (scL g vs c f (ds.drop i) ρ' acc),
    ⟨ds.length, wipeR ρ1 vs, F1, Ow, [], by simp, Nat.zero_le _, ?_, Ew.laid hD, ⟨_, upd_same, List.nodup_nil, by simp⟩, fun q => E1.lv D q hD, fun j q => E1.ne_new hD j (sw j D q), kept_all (kept_new hD), fun _ h => h, P1⟩, ?_⟩
  · have y2 : Ext false H F O (upd H1 D (SetO T.w D (fun _ => false) 0)) F1 O1 := y1.trans (.laid hD)
    exact ⟨y2.keep, y2.live, y2.grow, y2.new, fun j b e => y2.own j b (sw j b e)⟩
  rintro i m H' ⟨ρ', F', O', acc, rfl, hi, x', E', sa, nD, oD, kp, gF, P'⟩
  by_cases hlt : i < ds.length
  · have hd : ds[i]? = some ds[i] := by simp [hlt]
    rw [List.drop_eq_getElem_cons hlt] at P'
    obtain ⟨go, yl⟩ := r1.go H' kp i _ hd
    refine .inr ⟨go, fun H2 => ∃ ρ' F' O' acc, i + 1 ≤ ds.length ∧ Ext false H F O H2 F' O' ∧ EnvR T H2 F' O' (wipe σ vs) ρ' ∧ SetAt T.w H2 D acc ∧ ¬ F' D ∧ (∀ j, D ∉ O' j) ∧ Kept F1 H1 H2 ∧ (∀ b, F1 b → F' b) ∧ Post T W (tlE T) σ H F O Q (scL g vs c f (ds.drop (i + 1)) ρ' acc), fun H2 ⟨ρ2, F2, O2, ac, a, b⟩ => ⟨ds.length - (i + 1), by omega, ρ2, F2, O2, ac, rfl, a, b⟩, fun x H'' y => ?_⟩
    obtain ⟨kH, dx⟩ := yl x H'' y
    have gr : Gr H' F' H'' F' := ⟨kH, fun _ h => h, fun _ h => .inl h⟩
    refine ⟨ds[i], ρ', F', O', E'.gr gr, dx.mono .refl gF, ?_⟩
    rw [scL] at P'
    cases q : g ds[i] ρ' with
    | none => rw [q] at P'; exact P'.elim
    | some ρ2 =>
      rw [q] at P'
      dsimp only at P'
      refine fun σ3 O3 E3 k3 s3 => ?_
      have hw : wipe σ3 vs = wipe σ vs := by
        have e0 : wipe σ3 vs = wipe (wipe σ vs) vs := wipe_eq k3.1 fun j hj => k3.2 j (hpr j hj)
        rw [e0]
        exact wipe_eq (wipe_length σ vs) fun j hj => wipe_other hj
      have oD' : ∀ j, D ∉ O3 j := fun j z => oD j (s3 j D z)
      have x3 : Ext false H F O H'' F' O3 := ⟨fun b o h n z => kH b o (x'.keep b o h n z), fun b h => x'.live b (gr.live b h), x'.grow, x'.new, fun j b e => x'.own j b (s3 j b e)⟩
      have kp3 : Kept F1 H1 H'' := kp.trans gF (kept_all kH)
      have sa3 : SetAt T.w H'' D acc := sa.mono fun o h => kH D o h
      obtain ⟨o3, ho3, _⟩ := sa3.there
      refine ⟨hw, ?_⟩
      refine tof_N (Pp := Post T W (tlE T) σ H F O Q) (fun z => z) E3 P' fun b H4 b' ρ4 F4 O4 x4 E4 r4 P4 => ?_
      have r4' : b = b' := r4
      subst r4'
      have nD4 : ¬ F4 D := fun z => by
        rcases x4.new D z with z | ⟨j, z⟩ | z
        · exact nD z
        · exact oD' j z
        · rw [ho3] at z; cases z
      have oD4 : ∀ j, D ∉ O4 j := fun j z => (x4.ow z).elim (fun ⟨k, y⟩ => oD' k y) fun y => by rw [ho3] at y; cases y
      have kp4 := kp3.trans gF (E3.kept x4)
      have sa4 : SetAt T.w H4 D acc := sa3.mono fun o h => x4.keep D o h oD' (sa3.nc h).1
      obtain ⟨o4, ho4, _⟩ := sa4.there
      cases b with
      | false =>
        rw [if_neg Bool.false_ne_true] at P4 ⊢
        obtain ⟨O5, E5, s5⟩ := E4.wiped (vs := vs)
        rw [hw] at E5
        have y4 := x3.trans x4
        exact ⟨_, F4, O5, acc, hlt, ⟨y4.keep, y4.live, y4.grow, y4.new, fun j b e => y4.own j b (s5 j b e)⟩, E5, sa4, nD4, fun j z => oD4 j (s5 j D z), kp4, fun b h => x4.grow b (gF b h), P4⟩
      | true =>
        rw [if_pos rfl] at P4 ⊢
        refine tof_N (Pp := Post T W (tlE T) σ H F O Q) (fun z => z) E4 P4 fun v H5 r ρ5 F5 O5 x5 E5 r5 P5 => ?_
        have nD5 : ¬ F5 D := fun z => by
          rcases x5.new D z with z | ⟨j, z⟩ | z
          · exact nD4 z
          · exact oD4 j z
          · rw [ho4] at z; cases z
        have oD5 : ∀ j, D ∉ O5 j := fun j z => (x5.ow z).elim (fun ⟨k, y⟩ => oD4 k y) fun y => by rw [ho4] at y; cases y
        have kp5 := kp4.trans (fun b h => x4.grow b (gF b h)) (E4.kept x5)
        have sa5 : SetAt T.w H5 D acc := sa4.mono fun o h => x5.keep D o h oD4 (sa4.nc h).1
        obtain ⟨S, hS, nd, hm⟩ := sa5
        split at P5
        · rename_i k
          split at P5
          · rename_i hz
            have ev : v = .int k := by
              have r5' : DF T.K H5 F5 v (.int k) := r5
              cases r5'
              rfl
            have y5 := (x3.trans x4).trans x5
            refine ⟨k, S, acc.length, ev, hS, Nat.lt_of_le_of_lt (Nat.succ_le_of_lt hz) (by decide), ?_⟩
            obtain ⟨O7, E7, s7⟩ := E5.wiped (vs := vs)
            rw [hw] at E7
            obtain ⟨E8, k8⟩ := E7.other (o' := SetO T.w D (fun j => S j || decide (j = k)) (if S k = true then acc.length else acc.length + 1)) hS (fun z => z) nD5 fun j z => oD5 j (s7 j D z)
            refine ⟨_, F5, O7, addK acc k, hlt, ⟨fun b o h n z => ?_, fun b h => ?_, y5.grow, y5.new, fun j b e => y5.own j b (s7 j b e)⟩, E8, setAt_add nd hm, nD5, fun j z => oD5 j (s7 j D z), ?_, fun b h => x5.grow b (x4.grow b (gF b h)), P5⟩
            · rw [upd_ne (ne_of_none h hDB)]
              exact y5.keep b o h n z
            · by_cases e : b = D
              · subst e; exact hDB
              · rw [upd_ne e] at h
                exact y5.live b h
            · exact kp5.trans (fun b h => x5.grow b (x4.grow b (gF b h))) k8
          · exact P5.elim
        · exact P5.elim
  · have e : i = ds.length := by omega
    subst e
    rw [List.drop_length] at P'
    exact .inl ⟨r1.stop H' kp _ (Nat.le_refl _) (Nat.le_refl _), P' (.ref D) H' F' O' x' E'.unwipe ⟨D, rfl, hDB, nD, oD, sa⟩⟩
variable {n : Nat} {elt tg iter : Expr} {ifs : List Expr} {scope : Scope} {own : List (Str × Nat)} {pos p : Pos}
theorem se_sc (cx : Cxt X T W n) (hi : SI X T W tg iter it) (ok : BlkOk X.N X.env.scope scope own)
    (hg : ∀ (s : Shared) (H : Hp) (C : Addr) (cl : List (Str × Addr)) (fp : List Addr), SG (X.blk s H scope (compEnvC scope cl C X.env) fp) T (prB (own.map (·.2))) tg g)
    (ht : ∀ (s : Shared) (H : Hp) (C : Addr) (cl : List (Str × Addr)) (fp : List Addr), STs (X.blk s H scope (compEnvC scope cl C X.env) fp) T ifs c)
    (he : ∀ (s : Shared) (H : Hp) (C : Addr) (cl : List (Str × Addr)) (fp : List Addr), SE (X.blk s H scope (compEnvC scope cl C X.env) fp) T W0 elt f) (hs : ∀ x, foldedSetIterable iter X.env x = pure x := by intro _; rfl) :
    SE X T W (.SetComp elt [⟨tg, iter, ifs, 0⟩] scope pos) (scM it g (own.map (·.2)) c f) :=
  pe_imp (pe_si cx.calm cx.nd hi ok hg ht he hs) fun _ _ _ h => by rw [cx.hw]; exact sc_of prB_ok h
theorem sorted_of {σ : L2.St} {H : Hp} {Q : VK} (h : Tof T W (tlE T) (sortSM f) σ H Q) : tCB (rSortedSet T.w) (tCons (Tof T W (tlE T) f) tNil) σ H Q := by
  obtain ⟨ρ, F, O, E, P⟩ := h
  refine stp .refl E P fun v H1 r ρ1 F1 O1 x1 y1 E1 r1 P1 => ?_
  cases r with
  | st xs =>
    obtain ⟨a, rfl, _, nF, nO, S, hS, nd, hm⟩ := r1
    unfold srtR at P1
    dsimp only at P1
    split at P1
    · rename_i h64
      refine ⟨a, S, xs.length, rfl, hS, h64, fun ns q pw mem len hq => ?_⟩
      have e : ns = sortU xs := pw_eq pw sortU_pw fun k => by rw [mem, hm, sortU_mem]
      subst e
      exact fin_op y1 E1 P1 (.laid hq) (resN_lst hq (fun z => E1.lv q z hq) (DFs.of_ints _))
    · exact P1.elim
  | dat d => exact P1.elim
  | own d => exact P1.elim
  | slt d => exact P1.elim
  | fn d => exact P1.elim
  | ex d e => exact P1.elim
  | two d e => exact P1.elim
  | obj d => exact P1.elim
  | prt d e => exact P1.elim
theorem e_sortS {N : List Str} {sc : Scope} {e : Expr} (a : At X N sc) (cx : Cxt X T W n) (hx : gnB sc "sorted" = true) (hm : X.mg "sorted" = none) (he : SE X T W e f)
    (hs : starEach [e] X.env = (false, eval e X.env) :: starEach [] X.env := by rfl) (hpl : (backTo pos (starEach [] X.env)).any (·.1) = false := by rfl) :
    SE X T W (.Call (.Name "sorted" p) [e] [] pos) (sortSM f) :=
  pe_imp (pe_callB (cr_sortedSet cx.calm) (a.gl hx).1 hm rfl (pa_cons he pa_nil hs) (a.gl hx).2.2 (a.gl hx).2.1 hs hpl) fun _ _ _ h => by rw [cx.hw]; exact sorted_of h
end
end DL
namespace DL
open PySem L2 PyProof.Rows
theorem vals_ints : ∀ {ns : List Int} {us : List Value}, Vals (ns.map V.int) us → IntsAre us ns
  | [], _, .nil => .nil
  | n :: r, _, .cons h t => by
    obtain ⟨tk, rfl⟩ := h
    exact .cons _ _ (vals_ints t)
/-- the ints in a list, each once -/
def onceL : List Int → List Int → List Int
  | [], acc => acc
  | k :: r, acc => onceL r (addK acc k)
theorem onceL_mem {j : Int} : ∀ {ns acc : List Int}, j ∈ onceL ns acc ↔ j ∈ acc ∨ j ∈ ns
  | [], acc => by simp [onceL]
  | k :: r, acc => by rw [onceL, onceL_mem, addK_mem, List.mem_cons, or_assoc]
def setD : PyData → Option R
  | .list ds => (intsOf ds).bind fun ns => if ns.length < 4000 then some (.st (onceL ns [])) else none
  | _ => none
def rSetL (K : PySem.W.Frag) (w : World) : List V → Hp → VK → Prop := fun xs H Q => ∃ (a : Addr) (ns : List Int), xs = [V.ref a] ∧ SqL K H a (ns.map V.int) ∧ ns.length < 4000 ∧ ∀ p, H p = none → ∀ H', (∀ b o, H b = some o → H' b = some o) → (∀ b, H b = none → b ≠ p → H' b = none) → SetAt w H' p (onceL ns []) → Q (.ref p) H'
end DL
namespace DL
open PySem L2 PyProof.Rows
@[simp] theorem scM_e (it : IM) (g : GM) (vs : List Nat) (c : Rho → Option (Oe Bool)) (f : EM) (ρ : Rho) : scM it g vs c f ρ = bindO (it ρ) fun ds ρ1 => scL g vs c f ds (wipeR ρ1 vs) [] := eqI rfl
@[simp] theorem sortSM_e (f : EM) (ρ : Rho) : sortSM f ρ = bindO (f ρ) srtR := eqI rfl
@[simp] theorem srtR_e (xs : List Int) (ρ : Rho) : srtR (.st xs) ρ = if xs.length < 64 then some (.ok (.own (.list ((sortU xs).map .int))) ρ) else none := eqI rfl
@[simp] theorem setD_l (ns : List Int) : setD (.list (ns.map .int)) = if ns.length < 4000 then some (.st (onceL ns [])) else none := by
  show (intsOf _).bind _ = _
  rw [intsOf_map]
  rfl
theorem onceL_len : ∀ (ns acc : List Int), (onceL ns acc).length ≤ acc.length + ns.length
  | [], acc => by simp [onceL]
  | k :: r, acc => by
    rw [onceL, List.length_cons]
    have h := onceL_len r (addK acc k)
    have : (addK acc k).length ≤ acc.length + 1 := by unfold addK; split <;> simp
    omega
/-- what a turn gives, and the slots behind it -/
def evi (g : GM) (vs : List Nat) (c : Rho → Option (Oe Bool)) (f : EM) (x : PyData) (ρ : Rho) : Option (Option R × Rho) :=
  bindR (g x ρ) fun ρ1 => bindN (c ρ1) fun b ρ2 => pick b (fun ρ2 => bindN (f ρ2) fun q ρ3 => some (some q, wipeR ρ3 vs)) (fun ρ2 => some (none, wipeR ρ2 vs)) ρ2
theorem scL_ev {g : GM} {vs : List Nat} {c : Rho → Option (Oe Bool)} {f : EM} (x : PyData) (xs : List PyData) (ρ : Rho) (acc : List Int) {o : Option Int} {ρ' : Rho} (h : evi g vs c f x ρ = some (o.map fun k => .dat (.int k), ρ')) (hl : acc.length < 100) :
    scL g vs c f (x :: xs) ρ acc = scL g vs c f xs ρ' (onceL o.toList acc) := by
  unfold evi at h
  rw [scL]
  cases e1 : g x ρ with
  | none => rw [e1] at h; cases h
  | some ρ1 =>
    rw [e1, bindR_e] at h
    simp only
    cases e2 : c ρ1 with
    | none => rw [e2] at h; cases h
    | some oc =>
      cases oc with
      | er _ _ _ => rw [e2] at h; cases h
      | ok b ρ2 =>
        rw [e2, bindN_ok] at h
        rw [bindN_ok]
        cases b with
        | false =>
          rw [pick_f] at h
          cases o with
          | none => cases h; rfl
          | some k => cases h
        | true =>
          rw [pick_t] at h
          rw [if_pos rfl]
          cases e3 : f ρ2 with
          | none => rw [e3] at h; cases h
          | some oq =>
            cases oq with
            | er _ _ _ => rw [e3] at h; cases h
            | ok q ρ3 =>
              rw [e3, bindN_ok] at h
              rw [bindN_ok]
              cases o with
              | none => cases h
              | some k =>
                cases h
                simp only
                rw [if_pos hl]
                rfl
/-- a set comprehension whose turns leave the slots as they were -/
theorem scL_fm {α : Type} {g : GM} {vs : List Nat} {c : Rho → Option (Oe Bool)} {f : EM} {ρ : Rho} (inD : α → PyData) (out : α → Option Int) (xs : List α) (hl : xs.length ≤ 100)
    (st : ∀ x ∈ xs, evi g vs c f (inD x) ρ = some ((out x).map fun k => .dat (.int k), ρ)) : scL g vs c f (xs.map inD) ρ [] = some (.ok (.st (onceL (xs.filterMap out) [])) ρ) := by
  have key : ∀ (xs : List α) (acc : List Int), acc.length + xs.length ≤ 100 → (∀ x ∈ xs, evi g vs c f (inD x) ρ = some ((out x).map fun k => .dat (.int k), ρ)) →
      scL g vs c f (xs.map inD) ρ acc = some (.ok (.st (onceL (xs.filterMap out) acc)) ρ) := by
    intro xs
    induction xs with
    | nil => intro acc _ _; rfl
    | cons x r ih =>
      intro acc hl st
      rw [List.length_cons] at hl
      rw [List.map_cons, scL_ev _ _ _ _ (st x (List.mem_cons_self ..)) (by omega)]
      have : (onceL (out x).toList acc).length ≤ acc.length + 1 := by
        refine Nat.le_trans (onceL_len _ _) ?_
        cases out x <;> simp
      rw [ih _ (by omega) fun y hy => st y (List.mem_cons_of_mem _ hy)]
      cases h : out x <;> simp [h, onceL]
  exact key xs [] (by simpa using hl) st
end DL
namespace DL
open PySem L2 PyProof.Rows
def repR (r s : R) (ρ : Rho) : Option (Oe R) := match r, s with
  | .own (.list ds), .dat (.int k) => if (-9223372036854775808 ≤ k ∧ k < 9223372036854775808) ∧ ds.length * k.toNat ≤ lim then some (.ok (.own (.list (List.replicate k.toNat ds).flatten)) ρ) else none
  | _, _ => none
def repM (fa fb : EM) : EM := fun ρ => bindO (fa ρ) fun r ρ1 => bindO (fb ρ1) fun s ρ2 => repR r s ρ2
@[simp] theorem repM_e (fa fb : EM) (ρ : Rho) : repM fa fb ρ = bindO (fa ρ) fun r ρ1 => bindO (fb ρ1) fun s ρ2 => repR r s ρ2 := rfl
@[simp] theorem repR_e (ds : List PyData) (k : Int) (ρ : Rho) : repR (.own (.list ds)) (.dat (.int k)) ρ = if (-9223372036854775808 ≤ k ∧ k < 9223372036854775808) ∧ ds.length * k.toNat ≤ lim then some (.ok (.own (.list (List.replicate k.toNat ds).flatten)) ρ) else none := rfl
section
variable {X : Cx} {T : Tb} {W : WX} {n : Nat} {a b : Expr} {fa fb : EM} {pos : Pos}
theorem rep_of {σ : L2.St} {H : Hp} {Q : VK} (h : Tof T W (tlE T) (repM fa fb) σ H Q) : tOp rRep (Tof T W (tlE T) fa) (Tof T W (tlE T) fb) σ H Q := by
  obtain ⟨ρ, F, O, E, P⟩ := h
  refine stp .refl E P fun v H1 ra ρ1 F1 O1 x1 _ E1 r1 P1 => ?_
  refine stp x1 E1 P1 fun u H2 rb ρ2 F2 O2 x2 y2 E2 r2 P2 => ?_
  have r1' : ResR T H H2 F2 O2 σ v ra := ResR.mono E1 x2 r1
  unfold repR at P2
  split at P2
  · rename_i ds k
    split at P2
    · rename_i hz
      obtain ⟨p, rfl, _, nF, nO, vs, hv, s1⟩ := r1'
      have e2 : u = .int k := by
        have r2' : DF T.K H2 F2 u (.int k) := r2
        cases r2'
        rfl
      exact ⟨p, k, vs, rfl, e2, hv, hz.1.1, hz.1.2, by rw [s1.length]; exact Nat.le_trans hz.2 (by decide), fun l hl => fin_op y2 E2 P2 (.laid hl) (resN_lst hl (fun z => E2.lv l z hl) (s1.rep _))⟩
    · exact P2.elim
  · exact P2.elim
theorem e_rep (cx : Cxt X T W n) (ha : SE X T W a fa) (hb : SE X T W b fb) : SE X T W (.BinOp a .Mult b pos) (repM fa fb) := pe_imp (pe_op op_rep ha hb) fun _ _ _ h => rep_of h
end
end DL
namespace DL
open PySem L2 PyProof.Rows
open Builtin.SmallTypes (nextOf nextOrEnd)
/-- an iterator at i over what stands at l: its states and what it gives -/
structure Nx (P : Program) (w : World) (i l : Addr) (St : Nat → Heap → Prop) (el : Nat → Option Value) : Prop where
  ob : ∀ k h, St k h → ∃ o, h.get? i = some o ∧ (∀ v, o.data ≠ .cell v) ∧ o.cls ≠ .type "zip" ∧ o.cls ≠ .type "tuple"
  keep : ∀ k h h', St k h → (∀ o, h.get? i = some o → h'.get? i = some o) → (∀ o, h.get? l = some o → h'.get? l = some o) → St k h'
  item : ∀ (A : Around) (E : Value → Shared → Prop) (s : Shared) (Q : Value → Shared → Prop) (k : Nat) (x : Value), St k s.heap → el k = some x → (∀ h', St (k + 1) h' → Heap.SameBut i s.heap h' → Q x { s with heap := h' }) → wpAny (model P w) A (nextOf (.ref i)) Q E s
  stop : ∀ (A : Around) (E : Value → Shared → Prop) (s : Shared) (Q : Value → Shared → Prop) (k : Nat), A.handled = none → St k s.heap → el k = none →
    (∀ h' e, Heap.ExtBut i s.heap h' → (∃ o, h'.get? e = some o ∧ o.cls = .type "StopIteration") → E (.ref e) { s with heap := h' }) → wpAny (model P w) A (nextOf (.ref i)) Q E s
theorem nx_list {P : Program} {w : World} {i l : Addr} (hne : l ≠ i) (xs : Array Value) : Nx P w i l (fun k h => h.IsListIter i l k ∧ h.IsList l xs) fun k => xs[k]? where
  ob := fun k h st => by
    obtain ⟨⟨o, ho, hc, hd⟩, _⟩ := st
    exact ⟨o, ho, (fun v z => by rw [hd] at z; cases z), (by rw [hc]; decide), (by rw [hc]; decide)⟩
  keep := fun k h h' st k1 k2 => ⟨st.1.at k1, st.2.at k2⟩
  item := fun A E s Q k x st hx hQ => wpAny_nextOf_list_item st.1 st.2 hx fun h' a b => hQ h' ⟨a, st.2.extBut b.extBut hne⟩ b
  stop := fun A E s Q k hh st hx hE => wpAny_nextOf_list_end hh st.1 st.2 hx fun h' e a b => hE h' e a b
theorem nx_tup {P : Program} {w : World} {i l : Addr} (hne : l ≠ i) (xs : Array Value) : Nx P w i l (fun k h => h.IsTupleIter i l k ∧ h.IsTuple l xs) fun k => xs[k]? where
  ob := fun k h st => by
    obtain ⟨⟨o, ho, hc, hd⟩, _⟩ := st
    exact ⟨o, ho, (fun v z => by rw [hd] at z; cases z), (by rw [hc]; decide), (by rw [hc]; decide)⟩
  keep := fun k h h' st k1 k2 => ⟨st.1.at k1, st.2.at k2⟩
  item := fun A E s Q k x st hx hQ => RZ.nextOf_tuple_item st.1 st.2 hx fun h' a b => hQ h' ⟨a, st.2.extBut b.extBut hne⟩ b
  stop := fun A E s Q k hh st hx hE => RZ.nextOf_tuple_end hh st.1 st.2 hx fun h' e a b => hE h' e a b
section
variable {P : Program} {w : World} {A : Around} {E : Value → Shared → Prop} {s : Shared} {i l : Addr} {St : Nat → Heap → Prop} {el : Nat → Option Value}
theorem Nx.some_ (N : Nx P w i l St el) {Q : Option Value → Shared → Prop} {k : Nat} {x : Value} (st : St k s.heap) (hx : el k = some x) (hQ : ∀ h', St (k + 1) h' → Heap.SameBut i s.heap h' → Q (some x) { s with heap := h' }) : wpAny (model P w) A (nextOrEnd (.ref i)) Q E s := by
  unfold nextOrEnd
  exact wpAny_bind (wpAny_attempt (N.item _ _ s _ k x st hx fun h' a b => wpAny_pure (hQ h' a b)))
theorem Nx.none_ (N : Nx P w i l St el) {Q : Option Value → Shared → Prop} {k : Nat} (hh : A.handled = none) (st : St k s.heap) (hx : el k = none) (hQ : ∀ h', Heap.ExtBut i s.heap h' → Q none { s with heap := h' }) : wpAny (model P w) A (nextOrEnd (.ref i)) Q E s := by
  unfold nextOrEnd
  refine wpAny_bind (wpAny_attempt (N.stop _ _ s _ k hh st hx fun h' e a b => ?_))
  obtain ⟨o, ho, hc⟩ := b
  exact wpAny_bind (wpAny_isInstance (T := "StopIteration") (b := true) ⟨o, ho, hc⟩ isSubtype_stop (wpAny_pure (hQ h' a)))
end
/-- a strict zip's record -/
abbrev IsZs (h : Heap) (z TI TO : Addr) (f0 : Value) : Prop :=
  h.get? z = some { cls := .type "zip", dict := none, data := .fields #[f0, .bool false, .bool true, .ref TI, .ref TO], slots := #[] }
section
variable {P : Program} {w : World} {A : Around} {E : Value → Shared → Prop} {s : Shared} {z TI TO i1 i2 l1 l2 : Addr} {S1 S2 : Nat → Heap → Prop} {e1 e2 : Nat → Option Value}
theorem zs_item (D : ZipApart z TI TO i1 i2 l1 l2) (N1 : Nx P w i1 l1 S1 e1) (N2 : Nx P w i2 l2 S2 e2) {k1 k2 : Nat} {x y a b : Value} {Q : Value → Shared → Prop} (hz : IsZs s.heap z TI TO .none) (hTI : IsPair s.heap TI (.ref i1) (.ref i2)) (hTO : IsPair s.heap TO a b) (h1 : S1 k1 s.heap) (h2 : S2 k2 s.heap) (hx : e1 k1 = some x) (hy : e2 k2 = some y)
    (hQ : ∀ h', IsZs h' z TI TO (rawInt s.heap.objs.size) → IsPair h' TO x y → S1 (k1 + 1) h' → S2 (k2 + 1) h' → IsPair h' s.heap.objs.size x y → h'.objs.size = s.heap.objs.size + 1 → (∀ c o, c ≠ z → c ≠ TO → c ≠ i1 → c ≠ i2 → s.heap.get? c = some o → h'.get? c = some o) → Q (.ref s.heap.objs.size) { s with heap := h' }) :
    wpAny (model P w) A (Builtin.«zip.__next__» ⟨[.ref z], []⟩) (fun fin s' => ∃ v, fin = .done (.ret v) ∧ Q v s') E s := by
  show wpAny (model P w) A (field (.ref z) 2 >>= _) _ _ _
  refine wpAny_bind (wpAny_field hz rfl (x := .bool true) rfl ?_)
  show wpAny (model P w) A (field (.ref z) 3 >>= _) _ _ _
  refine wpAny_bind (wpAny_field hz rfl (x := .ref TI) rfl (wpAny_bind (wpAny_seqItems hTI rfl ?_)))
  show wpAny (model P w) A (Builtin.SmallTypes.ownedTupleIsFree (.ref z) >>= _) _ _ _
  unfold Builtin.SmallTypes.ownedTupleIsFree
  refine wpAny_bind (wpAny_bind (wpAny_field hz rfl (x := .none) rfl (wpAny_pure ?_)))
  simp only [if_true]
  refine wpAny_bind (wpAny_rule (wpAny_bind (wpAny_field hz rfl (x := .ref TO) rfl (wpAny_bind (wpAny_setField_rec hz (by simp) fun g1 z1 b1 => ?_)))))
  have z1' : IsZs g1 z TI TO .ellipsis := z1
  refine wpAny_bind ?_
  simp only [List.zipIdx_cons, List.zipIdx_nil, List.forIn_cons, List.forIn_nil]
  refine wpAny_bind (wpAny_bind (wpAny_onRaise ?_))
  show wpAny (model P w) A (nextOrEnd (.ref i1)) _ _ _
  refine N1.some_ (N1.keep _ _ _ h1 (fun o e => b1.extBut _ _ D.i1z e) fun o e => b1.extBut _ _ D.l1z e) hx fun g2 s12 b2 => ?_
  have o2 : IsPair g2 TO a b := b2.extBut _ _ D.TOi1 (b1.extBut _ _ D.TOz hTO)
  refine wpAny_bind (wpAny_seqItems o2 rfl (wpAny_bind (wpAny_updateSeq_pair o2 fun g3 o3 b3 => wpAny_bind (wpAny_letGo (wpAny_pure ?_)))))
  have o3' : IsPair g3 TO x b := o3
  refine wpAny_bind (wpAny_bind (wpAny_onRaise ?_))
  show wpAny (model P w) A (nextOrEnd (.ref i2)) _ _ _
  refine N2.some_ (N2.keep _ _ _ h2 (fun o e => b3.extBut _ _ D.TOi2.symm (b2.extBut _ _ D.i12.symm (b1.extBut _ _ D.i2z e))) fun o e => b3.extBut _ _ D.l2TO (b2.extBut _ _ D.l2i1 (b1.extBut _ _ D.l2z e))) hy fun g4 s24 b4 => ?_
  have o4 : IsPair g4 TO x b := b4.extBut _ _ D.TOi2 o3'
  refine wpAny_bind (wpAny_seqItems o4 rfl (wpAny_bind (wpAny_updateSeq_pair o4 fun g5 o5 b5 => wpAny_bind (wpAny_letGo (wpAny_pure (wpAny_pure ?_))))))
  have o5' : IsPair g5 TO x y := o5
  have sz : g5.objs.size = s.heap.objs.size := by rw [b5.1, b4.1, b3.1, b2.1, b1.1]
  have z5 : IsZs g5 z TI TO .ellipsis := b5.extBut _ _ D.TOz.symm (b4.extBut _ _ D.i2z.symm (b3.extBut _ _ D.TOz.symm (b2.extBut _ _ D.i1z.symm z1')))
  have s15 : S1 (k1 + 1) g5 := N1.keep _ _ _ s12 (fun o e => b5.extBut _ _ D.TOi1.symm (b4.extBut _ _ D.i12 (b3.extBut _ _ D.TOi1.symm e))) fun o e => b5.extBut _ _ D.l1TO (b4.extBut _ _ D.l1i2 (b3.extBut _ _ D.l1TO e))
  have s25 : S2 (k2 + 1) g5 := N2.keep _ _ _ s24 (fun o e => b5.extBut _ _ D.TOi2.symm e) fun o e => b5.extBut _ _ D.l2TO e
  have k5 : ∀ c o, c ≠ z → c ≠ TO → c ≠ i1 → c ≠ i2 → s.heap.get? c = some o → g5.get? c = some o := fun c o n1 n2 n3 n4 e => b5.extBut _ _ n2 (b4.extBut _ _ n4 (b3.extBut _ _ n2 (b2.extBut _ _ n3 (b1.extBut _ _ n1 e))))
  refine wpAny_bind (wpAny_seqItems o5' rfl (wpAny_bind (wpAny_newTuple ?_)))
  have zlt : z < g5.objs.size := Heap.lt_size z5
  show wpAny (model P w) A (Builtin.SmallTypes.ownedTupleHandOut (.ref z) (.ref g5.objs.size) >>= _) _ _ _
  unfold Builtin.SmallTypes.ownedTupleHandOut
  have z6 : IsZs (g5.push { cls := .type "tuple", data := .seq #[x, y] }) z TI TO .ellipsis := Heap.get?_push_of_some _ z5
  refine wpAny_bind (wpAny_bind (wpAny_setField_rec z6 (by simp) fun g7 z7 b7 => ?_))
  have z7' : IsZs g7 z TI TO (rawInt g5.objs.size) := z7
  refine wpAny_setField_rec z7' (by simp) fun g8 z8 b8 => ?_
  have z8' : IsZs g8 z TI TO (rawInt g5.objs.size) := z8
  have up : ∀ c o, c ≠ z → g5.get? c = some o → g8.get? c = some o := fun c o n1 e => b8.extBut _ _ n1 (b7.extBut _ _ n1 (Heap.get?_push_of_some _ e))
  have t8 : IsPair g8 g5.objs.size x y := b8.extBut _ _ (Nat.ne_of_gt zlt) (b7.extBut _ _ (Nat.ne_of_gt zlt) (Heap.get?_push_size _ rfl))
  have sz8 : g8.objs.size = g5.objs.size + 1 := by rw [b8.1, b7.1, Heap.size_push]
  rw [sz] at z8' t8 sz8
  refine wpAny_pure ⟨_, rfl, ?_⟩
  show Q (.ref g5.objs.size) _
  rw [sz]
  exact hQ g8 z8' (up _ _ D.TOz o5') (N1.keep _ _ _ s15 (fun o e => up _ o D.i1z e) fun o e => up _ o D.l1z e) (N2.keep _ _ _ s25 (fun o e => up _ o D.i2z e) fun o e => up _ o D.l2z e) t8 sz8 fun c o n1 n2 n3 n4 e => up c o n1 (k5 c o n1 n2 n3 n4 e)
/-- both end at once -/
theorem zs_end (hh : A.handled = none) (D : ZipApart z TI TO i1 i2 l1 l2) (N1 : Nx P w i1 l1 S1 e1) (N2 : Nx P w i2 l2 S2 e2) {k1 k2 : Nat} {a b : Value} {Q : Fin → Shared → Prop} (hz : IsZs s.heap z TI TO .none) (hTI : IsPair s.heap TI (.ref i1) (.ref i2)) (hTO : IsPair s.heap TO a b) (h1 : S1 k1 s.heap) (h2 : S2 k2 s.heap) (hx : e1 k1 = none) (hy : e2 k2 = none)
    (hE : ∀ h' e, (∀ c o, c ≠ z → c ≠ TO → c ≠ i1 → c ≠ i2 → s.heap.get? c = some o → h'.get? c = some o) → (∃ o, h'.get? e = some o ∧ o.cls = .type "StopIteration") → E (.ref e) { s with heap := h' }) :
    wpAny (model P w) A (Builtin.«zip.__next__» ⟨[.ref z], []⟩) Q E s := by
  show wpAny (model P w) A (field (.ref z) 2 >>= _) _ _ _
  refine wpAny_bind (wpAny_field hz rfl (x := .bool true) rfl ?_)
  show wpAny (model P w) A (field (.ref z) 3 >>= _) _ _ _
  refine wpAny_bind (wpAny_field hz rfl (x := .ref TI) rfl (wpAny_bind (wpAny_seqItems hTI rfl ?_)))
  show wpAny (model P w) A (Builtin.SmallTypes.ownedTupleIsFree (.ref z) >>= _) _ _ _
  unfold Builtin.SmallTypes.ownedTupleIsFree
  refine wpAny_bind (wpAny_bind (wpAny_field hz rfl (x := .none) rfl (wpAny_pure ?_)))
  simp only [if_true]
  refine wpAny_bind (wpAny_rule (wpAny_bind (wpAny_field hz rfl (x := .ref TO) rfl (wpAny_bind (wpAny_setField_rec hz (by simp) fun g1 z1 b1 => ?_)))))
  have z1' : IsZs g1 z TI TO .ellipsis := z1
  refine wpAny_bind ?_
  simp only [List.zipIdx_cons, List.zipIdx_nil, List.forIn_cons, List.forIn_nil]
  refine wpAny_bind (wpAny_bind (wpAny_onRaise ?_))
  show wpAny (model P w) A (nextOrEnd (.ref i1)) _ _ _
  refine N1.none_ hh (N1.keep _ _ _ h1 (fun o e => b1.extBut _ _ D.i1z e) fun o e => b1.extBut _ _ D.l1z e) hx fun g2 b2 => ?_
  have z2 : IsZs g2 z TI TO .ellipsis := b2 _ _ D.i1z.symm z1'
  refine wpAny_bind (wpAny_setField_rec z2 (by simp) fun g3 z3 b3 => ?_)
  have z3' : IsZs g3 z TI TO .none := z3
  refine wpAny_bind (wpAny_bind ?_)
  simp only [List.drop_succ_cons, List.drop_zero, List.zipIdx_cons, List.zipIdx_nil, List.forIn_cons, List.forIn_nil]
  refine wpAny_bind (wpAny_bind (N2.none_ hh (N2.keep _ _ _ h2 (fun o e => b3.extBut _ _ D.i2z (b2 _ _ D.i12.symm (b1.extBut _ _ D.i2z e))) fun o e => b3.extBut _ _ D.l2z (b2 _ _ D.l2i1 (b1.extBut _ _ D.l2z e))) hy fun g4 b4 => ?_))
  refine wpAny_pure (wpAny_pure (wpAny_bind (wpAny_rule ?_)))
  show wpAny (model P w) A (newExc (.type "StopIteration") [] >>= _) _ _ _
  simp only [newExc, newTuple]
  refine wpAny_bind (wpAny_bind (wpAny_newObj_type ?_ (by size_fits)))
  refine wpAny_bind (m := firstArgMember _ _) (wpAny_of_eq (a := Value.none) (by first | rfl | (simp only [firstArgMember]; rfl)) (wpAny_newObj_type ?_ (by size_fits)))
  simp only [raiseNew]
  refine wpAny_bind (wpAny_handled ?_)
  rw [hh]
  refine wpAny_bind (wpAny_pure (wpAny_throw ?_))
  exact hE _ _ (fun c o n1 n2 n3 n4 e => Heap.get?_push_of_some _ (Heap.get?_push_of_some _ (b4 _ _ n4 (b3.extBut _ _ n1 (b2 _ _ n3 (b1.extBut _ _ n1 e)))))) ⟨_, Heap.get?_push_size _ rfl, rfl⟩
end
end DL
namespace DL
open PySem L2 PyProof.Rows
section
variable {P : Program} {w : World} {A : Around} {E : Value → Shared → Prop} {s : Shared} {z TI TO i1 i2 l1 l2 : Addr} {S1 S2 : Nat → Heap → Prop} {e1 e2 : Nat → Option Value}
theorem zs_next (D : ZipApart z TI TO i1 i2 l1 l2) (N1 : Nx P w i1 l1 S1 e1) (N2 : Nx P w i2 l2 S2 e2) {k1 k2 : Nat} {x y a b : Value} {Q : Option Value → Shared → Prop} (hz : IsZs s.heap z TI TO .none) (hTI : IsPair s.heap TI (.ref i1) (.ref i2)) (hTO : IsPair s.heap TO a b) (h1 : S1 k1 s.heap) (h2 : S2 k2 s.heap) (hx : e1 k1 = some x) (hy : e2 k2 = some y)
    (hQ : ∀ h', IsZs h' z TI TO (rawInt s.heap.objs.size) → IsPair h' TO x y → S1 (k1 + 1) h' → S2 (k2 + 1) h' → IsPair h' s.heap.objs.size x y → h'.objs.size = s.heap.objs.size + 1 → (∀ c o, c ≠ z → c ≠ TO → c ≠ i1 → c ≠ i2 → s.heap.get? c = some o → h'.get? c = some o) → Q (some (.ref s.heap.objs.size)) { s with heap := h' }) :
    wpAny (model P w) A (pyNext (.ref z)) Q E s := by
  have ty : s.TypeIs (.ref z) "zip" := ⟨_, hz, rfl⟩
  unfold pyNext
  refine wpAny_bind (wpAny_attempt (wpAny_callSpecial?_slot (name := Str.ofString "__next__") ty F.slot_zip_next (wpAny_call_entry F.slot_zip_next ty F.entry_zip_next (zs_item D N1 N2 hz hTI hTO h1 h2 hx hy fun h' a1 a2 a3 a4 a5 a6 a7 => ?_) (F.args_zip_next_1 _))))
  exact wpAny_pure (hQ h' a1 a2 a3 a4 a5 a6 a7)
theorem zs_stop (hh : A.handled = none) (D : ZipApart z TI TO i1 i2 l1 l2) (N1 : Nx P w i1 l1 S1 e1) (N2 : Nx P w i2 l2 S2 e2) {k1 k2 : Nat} {a b : Value} {Q : Option Value → Shared → Prop} (hz : IsZs s.heap z TI TO .none) (hTI : IsPair s.heap TI (.ref i1) (.ref i2)) (hTO : IsPair s.heap TO a b) (h1 : S1 k1 s.heap) (h2 : S2 k2 s.heap) (hx : e1 k1 = none) (hy : e2 k2 = none)
    (hQ : ∀ h', (∀ c o, c ≠ z → c ≠ TO → c ≠ i1 → c ≠ i2 → s.heap.get? c = some o → h'.get? c = some o) → Q none { s with heap := h' }) : wpAny (model P w) A (pyNext (.ref z)) Q E s := by
  have ty : s.TypeIs (.ref z) "zip" := ⟨_, hz, rfl⟩
  unfold pyNext
  refine wpAny_bind (wpAny_attempt (wpAny_callSpecial?_slot (name := Str.ofString "__next__") ty F.slot_zip_next (wpAny_call_entry F.slot_zip_next ty F.entry_zip_next (zs_end (A := A.in1) (show A.in1.handled = none from hh) D N1 N2 hz hTI hTO h1 h2 hx hy fun h' e hk he => ?_) (F.args_zip_next_1 _))))
  obtain ⟨o, ho, hc⟩ := he
  exact wpAny_bind (wpAny_isInstance (T := "StopIteration") (b := true) ⟨o, ho, hc⟩ isSubtype_stop (wpAny_pure (hQ _ hk)))
theorem zs_go {elts : List Expr} {x1 : Nat} {pos : Pos} {T : Addr} {Q : Unit → Shared → Prop} (hz : IsZs s.heap z TI TO (rawInt T)) (hQ : ∀ h', IsZs h' z TI TO .none → Heap.SameBut z s.heap h' → Q () { s with heap := h' }) :
    wpAny (model P w) A (letOwnedTupleGo (.Tuple elts x1 pos) (.ref z) (.ref T)) Q E s := by
  unfold letOwnedTupleGo
  refine wpAny_bind (wpAny_load hz ?_)
  show wpAny (model P w) A (if (["enumerate", "zip", "dict_itemiterator", "dict_reverseitemiterator", "odict_iterator", "itertools.zip_longest", "itertools.pairwise"].contains "zip" && (#[rawInt T, .bool false, .bool true, .ref TI, .ref TO] : Array Value)[0]? == some (rawInt T)) = true then _ else _) Q E s
  rw [if_pos (by simp)]
  refine wpAny_bind (wpAny_rule ?_)
  show wpAny (model P w) A (setField (.ref z) 0 .none) Q E s
  exact wpAny_setField_rec hz (by simp) fun h' a b => hQ h' a b
theorem zs_iter {f0 : Value} {Q : Value → Shared → Prop} (hz : IsZs s.heap z TI TO f0) (h : Q (.ref z) s) : wpAny (model P w) A (pyIter (.ref z)) Q E s := by
  have ty : s.TypeIs (.ref z) "zip" := ⟨_, hz, rfl⟩
  refine wpAny_pyIter_slot ty F.slot_zip_iter (wpAny_call_entry F.slot_zip_iter ty F.entry_zip_iter ?_ (F.args_zip_iter_1 _))
  show wpAny (model P w) _ (ret (.ref z)) _ _ s
  exact wpAny_pure ⟨_, rfl, "zip", _, ty, F.slot_zip_next.lookup, h⟩
end
theorem tc_zs (a b c : Value) : checkTypeCall "zip" ⟨[a, b], [(Str.ofString "strict", c)]⟩ = pure () := by kernel_rfl
theorem nc_zs (a b c : Value) : checkBuiltinCall "zip.__new__" ⟨[.type "zip", a, b], [(Str.ofString "strict", c)]⟩ = pure () := by kernel_rfl
theorem oi_zs (o a b c : Value) : argsOk "object.__init__" ⟨[o, a, b], [(Str.ofString "strict", c)]⟩ := by unfold argsOk; kernel_rfl
abbrev itO (c : String) (l : Addr) : Obj := { cls := .type c, data := .fields #[.ref l, .int 0 0] }
abbrev zA (c : String) (h : Heap) (l : Addr) : Heap := h.push (itO c l)
abbrev zB (c1 c2 : String) (h : Heap) (l1 l2 : Addr) : Heap := (zA c1 h l1).push (itO c2 l2)
abbrev zC (c1 c2 : String) (h : Heap) (l1 l2 : Addr) : Heap := (zB c1 c2 h l1 l2).push { cls := .type "tuple", data := .seq #[.ref h.objs.size, .ref (zA c1 h l1).objs.size] }
abbrev zD (c1 c2 : String) (h : Heap) (l1 l2 : Addr) : Heap := (zC c1 c2 h l1 l2).push { cls := .type "tuple", data := .seq #[.none, .none] }
/-- the heap behind zip(a, b, strict=True) -/
abbrev zE (c1 c2 : String) (h : Heap) (l1 l2 : Addr) : Heap := (zD c1 c2 h l1 l2).push { cls := .type "zip", data := .fields #[.none, .bool false, .bool true, .ref (zB c1 c2 h l1 l2).objs.size, .ref (zC c1 c2 h l1 l2).objs.size] }
theorem zs_newLL (l1 l2 : Addr) (xs ys : Array Value) : Meets (Builtin.«zip.__new__» ⟨[.type "zip", .ref l1, .ref l2], [(Str.ofString "strict", .bool true)]⟩) (fun _ R s => (s.heap.IsList l1 xs ∧ s.heap.IsList l2 ys) ∧ R (.ok (.ret (.ref (zD "list_iterator" "list_iterator" s.heap l1 l2).objs.size))) { s with heap := zE "list_iterator" "list_iterator" s.heap l1 l2 }) :=
  .of_wp fun P w A R s h => by
    obtain ⟨hp, g, d, tk, os⟩ := s
    obtain ⟨⟨k1, k2⟩, h⟩ := h
    have hsub := sub_zip
    have j1 : Heap.IsList (Shared.heap ⟨hp, g, d, tk, os⟩) l1 xs := k1
    have j2 : Heap.IsList (Shared.heap ⟨hp.push (itO "list_iterator" l1), g, d, tk, os⟩) l2 ys := Heap.IsList.push k2 _
    wp_walk using wpAny_pyIter_list j1, wpAny_pyIter_list j2
    exact ⟨_, rfl, h⟩
theorem zs_newLT (l1 l2 : Addr) (xs ys : Array Value) : Meets (Builtin.«zip.__new__» ⟨[.type "zip", .ref l1, .ref l2], [(Str.ofString "strict", .bool true)]⟩) (fun _ R s => (s.heap.IsList l1 xs ∧ s.heap.IsTuple l2 ys) ∧ R (.ok (.ret (.ref (zD "list_iterator" "tuple_iterator" s.heap l1 l2).objs.size))) { s with heap := zE "list_iterator" "tuple_iterator" s.heap l1 l2 }) :=
  .of_wp fun P w A R s h => by
    obtain ⟨hp, g, d, tk, os⟩ := s
    obtain ⟨⟨k1, k2⟩, h⟩ := h
    have hsub := sub_zip
    have j1 : Heap.IsList (Shared.heap ⟨hp, g, d, tk, os⟩) l1 xs := k1
    have j2 : Heap.IsTuple (Shared.heap ⟨hp.push (itO "list_iterator" l1), g, d, tk, os⟩) l2 ys := Heap.IsTuple.push k2 _
    wp_walk using wpAny_pyIter_list j1, wpAny_pyIter_tuple j2
    exact ⟨_, rfl, h⟩
theorem zs_newTL (l1 l2 : Addr) (xs ys : Array Value) : Meets (Builtin.«zip.__new__» ⟨[.type "zip", .ref l1, .ref l2], [(Str.ofString "strict", .bool true)]⟩) (fun _ R s => (s.heap.IsTuple l1 xs ∧ s.heap.IsList l2 ys) ∧ R (.ok (.ret (.ref (zD "tuple_iterator" "list_iterator" s.heap l1 l2).objs.size))) { s with heap := zE "tuple_iterator" "list_iterator" s.heap l1 l2 }) :=
  .of_wp fun P w A R s h => by
    obtain ⟨hp, g, d, tk, os⟩ := s
    obtain ⟨⟨k1, k2⟩, h⟩ := h
    have hsub := sub_zip
    have j1 : Heap.IsTuple (Shared.heap ⟨hp, g, d, tk, os⟩) l1 xs := k1
    have j2 : Heap.IsList (Shared.heap ⟨hp.push (itO "tuple_iterator" l1), g, d, tk, os⟩) l2 ys := Heap.IsList.push k2 _
    wp_walk using wpAny_pyIter_tuple j1, wpAny_pyIter_list j2
    exact ⟨_, rfl, h⟩
theorem zs_newTT (l1 l2 : Addr) (xs ys : Array Value) : Meets (Builtin.«zip.__new__» ⟨[.type "zip", .ref l1, .ref l2], [(Str.ofString "strict", .bool true)]⟩) (fun _ R s => (s.heap.IsTuple l1 xs ∧ s.heap.IsTuple l2 ys) ∧ R (.ok (.ret (.ref (zD "tuple_iterator" "tuple_iterator" s.heap l1 l2).objs.size))) { s with heap := zE "tuple_iterator" "tuple_iterator" s.heap l1 l2 }) :=
  .of_wp fun P w A R s h => by
    obtain ⟨hp, g, d, tk, os⟩ := s
    obtain ⟨⟨k1, k2⟩, h⟩ := h
    have hsub := sub_zip
    have j1 : Heap.IsTuple (Shared.heap ⟨hp, g, d, tk, os⟩) l1 xs := k1
    have j2 : Heap.IsTuple (Shared.heap ⟨hp.push (itO "tuple_iterator" l1), g, d, tk, os⟩) l2 ys := Heap.IsTuple.push k2 _
    wp_walk using wpAny_pyIter_tuple j1, wpAny_pyIter_tuple j2
    exact ⟨_, rfl, h⟩
section
variable {P : Program} {w : World} {A : Around} {E : Value → Shared → Prop} {s : Shared}
/-- what stands behind the making -/
structure ZsNew (c1 c2 : String) (n : Nat) (l1 l2 : Addr) (h h' : Heap) : Prop where
  z : IsZs h' (n + 4) (n + 2) (n + 3) .none
  ti : IsPair h' (n + 2) (.ref n) (.ref (n + 1))
  to : IsPair h' (n + 3) .none .none
  i1 : h'.get? n = some (itO c1 l1)
  i2 : h'.get? (n + 1) = some (itO c2 l2)
  keep : ∀ c o, h.get? c = some o → h'.get? c = some o
theorem zsNew {c1 c2 : String} {h : Heap} {l1 l2 : Addr} : (zD c1 c2 h l1 l2).objs.size = h.objs.size + 4 ∧ ZsNew c1 c2 h.objs.size l1 l2 h (zE c1 c2 h l1 l2) := by
  have q1 : (zA c1 h l1).objs.size = h.objs.size + 1 := Heap.size_push ..
  have q2 : (zB c1 c2 h l1 l2).objs.size = h.objs.size + 2 := by rw [Heap.size_push, q1]
  have q3 : (zC c1 c2 h l1 l2).objs.size = h.objs.size + 3 := by rw [Heap.size_push, q2]
  have q4 : (zD c1 c2 h l1 l2).objs.size = h.objs.size + 4 := by rw [Heap.size_push, q3]
  have r5 : (zE c1 c2 h l1 l2).get? (zD c1 c2 h l1 l2).objs.size = some _ := Heap.get?_push_size _ rfl
  have r4 : (zE c1 c2 h l1 l2).get? (zC c1 c2 h l1 l2).objs.size = some _ := Heap.get?_push_of_some _ (Heap.get?_push_size _ rfl)
  have r3 : (zE c1 c2 h l1 l2).get? (zB c1 c2 h l1 l2).objs.size = some _ := Heap.get?_push_of_some _ (Heap.get?_push_of_some _ (Heap.get?_push_size _ rfl))
  have r2 : (zE c1 c2 h l1 l2).get? (zA c1 h l1).objs.size = some _ := Heap.get?_push_of_some _ (Heap.get?_push_of_some _ (Heap.get?_push_of_some _ (Heap.get?_push_size _ rfl)))
  have r1 : (zE c1 c2 h l1 l2).get? h.objs.size = some _ := Heap.get?_push_of_some _ (Heap.get?_push_of_some _ (Heap.get?_push_of_some _ (Heap.get?_push_of_some _ (Heap.get?_push_size _ rfl))))
  rw [q2, q3, q4] at r5
  rw [q1, q2] at r3
  rw [q3] at r4
  rw [q1] at r2
  exact ⟨q4, r5, r3, r4, r1, r2, fun c o e => Heap.get?_push_of_some _ (Heap.get?_push_of_some _ (Heap.get?_push_of_some _ (Heap.get?_push_of_some _ (Heap.get?_push_of_some _ e))))⟩
theorem zs_callLL {l1 l2 : Addr} {xs ys : Array Value} {Q : Value → Shared → Prop} (h1 : s.heap.IsList l1 xs) (h2 : s.heap.IsList l2 ys) (h : ∀ h', ZsNew "list_iterator" "list_iterator" s.heap.objs.size l1 l2 s.heap h' → Q (.ref (s.heap.objs.size + 4)) { s with heap := h' }) :
    wpAny (model P w) A (call (.type "zip") [.ref l1, .ref l2] [(Str.ofString "strict", .bool true)]) Q E s := by
  refine callType_newKw F.called_zip (by decide) (tc_zs _ _ _) (nc_zs _ _ _) (fun o => oi_zs o _ _ _) F.entry_zip_new (zs_newLL l1 l2 xs ys) ⟨⟨h1, h2⟩, ?_⟩
  obtain ⟨e, Z⟩ := zsNew (c1 := "list_iterator") (c2 := "list_iterator") (h := s.heap) (l1 := l1) (l2 := l2)
  show _ ∧ _
  rw [e]
  exact ⟨⟨_, Z.z, rfl⟩, h _ Z⟩
theorem zs_callLT {l1 l2 : Addr} {xs ys : Array Value} {Q : Value → Shared → Prop} (h1 : s.heap.IsList l1 xs) (h2 : s.heap.IsTuple l2 ys) (h : ∀ h', ZsNew "list_iterator" "tuple_iterator" s.heap.objs.size l1 l2 s.heap h' → Q (.ref (s.heap.objs.size + 4)) { s with heap := h' }) :
    wpAny (model P w) A (call (.type "zip") [.ref l1, .ref l2] [(Str.ofString "strict", .bool true)]) Q E s := by
  refine callType_newKw F.called_zip (by decide) (tc_zs _ _ _) (nc_zs _ _ _) (fun o => oi_zs o _ _ _) F.entry_zip_new (zs_newLT l1 l2 xs ys) ⟨⟨h1, h2⟩, ?_⟩
  obtain ⟨e, Z⟩ := zsNew (c1 := "list_iterator") (c2 := "tuple_iterator") (h := s.heap) (l1 := l1) (l2 := l2)
  show _ ∧ _
  rw [e]
  exact ⟨⟨_, Z.z, rfl⟩, h _ Z⟩
theorem zs_callTL {l1 l2 : Addr} {xs ys : Array Value} {Q : Value → Shared → Prop} (h1 : s.heap.IsTuple l1 xs) (h2 : s.heap.IsList l2 ys) (h : ∀ h', ZsNew "tuple_iterator" "list_iterator" s.heap.objs.size l1 l2 s.heap h' → Q (.ref (s.heap.objs.size + 4)) { s with heap := h' }) :
    wpAny (model P w) A (call (.type "zip") [.ref l1, .ref l2] [(Str.ofString "strict", .bool true)]) Q E s := by
  refine callType_newKw F.called_zip (by decide) (tc_zs _ _ _) (nc_zs _ _ _) (fun o => oi_zs o _ _ _) F.entry_zip_new (zs_newTL l1 l2 xs ys) ⟨⟨h1, h2⟩, ?_⟩
  obtain ⟨e, Z⟩ := zsNew (c1 := "tuple_iterator") (c2 := "list_iterator") (h := s.heap) (l1 := l1) (l2 := l2)
  show _ ∧ _
  rw [e]
  exact ⟨⟨_, Z.z, rfl⟩, h _ Z⟩
theorem zs_callTT {l1 l2 : Addr} {xs ys : Array Value} {Q : Value → Shared → Prop} (h1 : s.heap.IsTuple l1 xs) (h2 : s.heap.IsTuple l2 ys) (h : ∀ h', ZsNew "tuple_iterator" "tuple_iterator" s.heap.objs.size l1 l2 s.heap h' → Q (.ref (s.heap.objs.size + 4)) { s with heap := h' }) :
    wpAny (model P w) A (call (.type "zip") [.ref l1, .ref l2] [(Str.ofString "strict", .bool true)]) Q E s := by
  refine callType_newKw F.called_zip (by decide) (tc_zs _ _ _) (nc_zs _ _ _) (fun o => oi_zs o _ _ _) F.entry_zip_new (zs_newTT l1 l2 xs ys) ⟨⟨h1, h2⟩, ?_⟩
  obtain ⟨e, Z⟩ := zsNew (c1 := "tuple_iterator") (c2 := "tuple_iterator") (h := s.heap) (l1 := l1) (l2 := l2)
  show _ ∧ _
  rw [e]
  exact ⟨⟨_, Z.z, rfl⟩, h _ Z⟩
end
end DL
namespace DL
open PySem L2 PyProof.Rows
/-- lists or tuples, and their iterators -/
structure Kd where
  It : Heap → Addr → Addr → Nat → Prop
  Ct : Heap → Addr → Array Value → Prop
  Sq : PySem.W.Frag → Hp → Addr → List V → Prop
structure KdOk (k : Kd) : Prop where
  ob : ∀ h i a n, k.It h i a n → ∃ o, h.get? i = some o ∧ ∀ v, o.data ≠ .cell v
  at_ : ∀ h h' i a n, k.It h i a n → (∀ o, h.get? i = some o → h'.get? i = some o) → k.It h' i a n
  nx : ∀ (P : Program) (w : World) (i a : Addr) (xs : Array Value), a ≠ i → Nx P w i a (fun n h => k.It h i a n ∧ k.Ct h a xs) fun n => xs[n]?
  read : ∀ (X : Cx) (pins : List (Addr × Obj)) (σ : L2.St) (H : Hp) (s : Shared) (a : Addr) (xs : List V), L2.Inv X pins σ H s → k.Sq X.K H a xs → ∃ its : List Value, Vals xs its ∧ k.Ct s.heap a its.toArray ∧ a < s.heap.objs.size
  inj : ∀ (X : Cx) (pins : List (Addr × Obj)) (σ : L2.St) (H : Hp) (s : Shared) (a : Addr) (xs ys : List V), L2.Inv X pins σ H s → k.Sq X.K H a xs → k.Sq X.K H a ys → xs = ys
def kdL : Kd := ⟨fun h i a n => h.IsListIter i a n, fun h a xs => h.IsList a xs, fun K H a xs => SqL K H a xs⟩
def kdT : Kd := ⟨fun h i a n => h.IsTupleIter i a n, fun h a xs => h.IsTuple a xs, fun K H a xs => SqT K H a xs⟩
theorem kdL_ok : KdOk kdL where
  ob := fun h i a n ⟨o, ho, _, hd⟩ => ⟨o, ho, fun v z => by rw [hd] at z; cases z⟩
  at_ := fun h h' i a n st k => st.at k
  nx := fun P w i a xs hne => nx_list hne xs
  read := fun X pins σ H s a xs I h => by
    obtain ⟨its, rv, p, _⟩ := I.list h
    exact ⟨its, rv, p.isList, p.lt⟩
  inj := fun X pins σ H s a xs ys I h h' => I.list_inj h h'
theorem kdT_ok : KdOk kdT where
  ob := fun h i a n ⟨o, ho, _, hd⟩ => ⟨o, ho, fun v z => by rw [hd] at z; cases z⟩
  at_ := fun h h' i a n st k => st.at k
  nx := fun P w i a xs hne => nx_tup hne xs
  read := fun X pins σ H s a xs I h => by
    obtain ⟨its, rv, p, _⟩ := I.tuple h
    obtain ⟨o, ho, _⟩ := id p
    exact ⟨its, rv, p, Heap.lt_size ho⟩
  inj := fun X pins σ H s a xs ys I h h' => I.tuple_inj h h'
def Itk (k1 k2 : Kd) (K : PySem.W.Frag) (a b : Addr) : It :=
  ⟨fun i H => ∃ (xs ys : List V) (x y : V), k1.Sq K H a xs ∧ k2.Sq K H b ys ∧ xs[i]? = some x ∧ ys[i]? = some y,
    fun i H v H' => ∃ T x y, v = .ref T ∧ H T = none ∧ H' = upd H T (.tup [x, y]) ∧ (∀ xs, k1.Sq K H a xs → xs[i]? = some x) ∧ ∀ ys, k2.Sq K H b ys → ys[i]? = some y,
    fun i H => ∃ xs ys : List V, k1.Sq K H a xs ∧ k2.Sq K H b ys ∧ xs.length ≤ i ∧ ys.length ≤ i⟩
theorem turn_zs {k1 k2 : Kd} (o1 : KdOk k1) (o2 : KdOk k2) {P : Program} {w : World} {K : PySem.W.Frag} {elts : List Expr} {kk : Nat} {tpos : Pos} {a b z TI TO i1 i2 : Addr} (D : ZipApart z TI TO i1 i2 a b) :
    Turn P w K (.Tuple elts kk tpos) (Itk k1 k2 K a b) [z, TI, TO, i1, i2] z (fun i h => IsZs h z TI TO .none ∧ IsPair h TI (.ref i1) (.ref i2) ∧ (∃ x y, IsPair h TO x y) ∧ k1.It h i1 a i ∧ k2.It h i2 b i) where
  mem := by simp
  obj := fun i h ⟨hz, hTI, ⟨x, y, hTO⟩, h1, h2⟩ c hc => by
    simp only [List.mem_cons, List.not_mem_nil, or_false] at hc
    rcases hc with rfl | rfl | rfl | rfl | rfl
    · exact ⟨_, hz, fun v q => nomatch q⟩
    · exact ⟨_, hTI, fun v q => nomatch q⟩
    · exact ⟨_, hTO, fun v q => nomatch q⟩
    · exact o1.ob _ _ _ _ h1
    · exact o2.ob _ _ _ _ h2
  keep := fun i h h' ⟨hz, hTI, ⟨x, y, hTO⟩, h1, h2⟩ k => ⟨k z (by simp) _ hz, k TI (by simp) _ hTI, ⟨x, y, k TO (by simp) _ hTO⟩, o1.at_ _ _ _ _ _ h1 fun o q => k i1 (by simp) o q, o2.at_ _ _ _ _ _ h2 fun o q => k i2 (by simp) o q⟩
  item := by
    intro X hP hw hK hc i pins s σ H E I hf st hg
    subst hP hw hK
    obtain ⟨hz, hTI, ⟨x0, y0, hTO⟩, h1, h2⟩ := st
    obtain ⟨xs, ys, x, y, hqx, hqy, hx, hy⟩ := hg
    obtain ⟨its, rv, p, _⟩ := o1.read X pins σ H s a xs I hqx
    obtain ⟨its2, rv2, p2, _⟩ := o2.read X pins σ H s b ys I hqy
    obtain ⟨u, hu, ru⟩ := rv.get hx
    obtain ⟨u2, hu2, ru2⟩ := rv2.get hy
    have hzl : z < s.heap.objs.size := Heap.lt_size hz
    refine zs_next D (o1.nx X.prog X.w i1 a its.toArray D.l1i1) (o2.nx X.prog X.w i2 b its2.toArray D.l2i2) hz hTI hTO ⟨h1, p⟩ ⟨h2, p2⟩ (x := u) (y := u2) (by simpa using hu) (by simpa using hu2) fun h' z' TO' h1' h2' hT hsz hk => ?_
    refine ⟨_, rfl, zs_go (s := { s with heap := h' }) z' fun h'' z'' sb => ?_⟩
    have hT2 : h''.get? s.heap.objs.size = some { cls := .type "tuple", data := .seq #[u, u2] } := (sb.2 _ (Nat.ne_of_gt hzl)).trans hT
    have nw : ObjOk X.prog X.w (upd H s.heap.objs.size (.tup [x, y])) h'' s.heap.objs.size (.tup [x, y]) := ⟨by show 2 ≤ sizeLine; decide, [u, u2], .cons ru (.cons ru2 .nil), ⟨_, hT2, rfl, _, rfl⟩⟩
    have away : ∀ c, c ∉ [z, TI, TO, i1, i2] → c ≠ z ∧ c ≠ TO ∧ c ≠ i1 ∧ c ≠ i2 := fun c hc => by
      simp only [List.mem_cons, List.not_mem_nil, or_false, not_or] at hc
      exact ⟨hc.1, hc.2.2.1, hc.2.2.2.1, hc.2.2.2.2⟩
    have I1 : L2.Inv X pins σ (upd H s.heap.objs.size (.tup [x, y])) { s with heap := h'' } := I.turnedNew (t' := s.toks) (ch := [z, TI, TO, i1, i2]) (fun c o hb q => by
      obtain ⟨n1, n2, n3, n4⟩ := away c hb
      exact (sb.2 c n1).trans (hk c o n1 n2 n3 n4 q)) hf (Nat.le_refl _) nw
    refine ⟨.ref s.heap.objs.size, _, I1, rfl, ⟨_, x, y, rfl, I.hok.fresh (Nat.le_refl _), rfl, fun l hl => by rw [o1.inj X pins σ H s a l xs I hl hqx]; exact hx, fun l hl => by rw [o2.inj X pins σ H s b l ys I hl hqy]; exact hy⟩,
      ⟨z'', (sb.2 _ D.TIz).trans (hk _ _ D.TIz D.TITO D.TIi1 D.TIi2 hTI), ⟨u, u2, (sb.2 _ D.TOz).trans TO'⟩, o1.at_ _ _ _ _ _ h1'.1 fun o q => (sb.2 _ D.i1z).trans q, o2.at_ _ _ _ _ _ h2'.1 fun o q => (sb.2 _ D.i2z).trans q⟩, fun c hcm => ?_⟩
    have hlt : c < s.heap.objs.size := by
      have hcm' := hcm
      simp only [List.mem_cons, List.not_mem_nil, or_false] at hcm'
      rcases hcm' with rfl | rfl | rfl | rfl | rfl
      · exact hzl
      · exact Heap.lt_size hTI
      · exact Heap.lt_size hTO
      · obtain ⟨_, e, _⟩ := o1.ob _ _ _ _ h1; exact Heap.lt_size e
      · obtain ⟨_, e, _⟩ := o2.ob _ _ _ _ h2; exact Heap.lt_size e
    rw [upd_ne (Nat.ne_of_lt hlt)]
    exact (hf c hcm).1
  done := by
    intro X hP hw hK hc i pins s σ H E I hf st hg
    subst hP hw hK
    obtain ⟨hz, hTI, ⟨x0, y0, hTO⟩, h1, h2⟩ := st
    obtain ⟨xs, ys, hqx, hqy, e1, e2⟩ := hg
    obtain ⟨its, rv, p, _⟩ := o1.read X pins σ H s a xs I hqx
    obtain ⟨its2, rv2, p2, _⟩ := o2.read X pins σ H s b ys I hqy
    have l1 := rv.length
    have l2 := rv2.length
    refine zs_stop (I.ok.hd hc) D (o1.nx X.prog X.w i1 a its.toArray D.l1i1) (o2.nx X.prog X.w i2 b its2.toArray D.l2i2) hz hTI hTO ⟨h1, p⟩ ⟨h2, p2⟩ (by simp; omega) (by simp; omega) fun h' hk => ⟨rfl, I.turnedL (t' := s.toks) (ch := [z, TI, TO, i1, i2]) (fun c o hb q => ?_) hf⟩
    simp only [List.mem_cons, List.not_mem_nil, or_false, not_or] at hb
    exact hk c o hb.1 hb.2.2.1 hb.2.2.2.1 hb.2.2.2.2 q
  self := fun A i s Q E st h => zs_iter st.1 h
section
variable {M : Model} {A : Around} {E : Value → Shared → Prop} {s : Shared} {env : Env} {pos : Pos}
theorem cw_kw {T : String} {e : Expr} {rest : List Expr} {kws : List Keyword} {Q : Value → Shared → Prop} (hall : (backToKw pos (keywordEach kws env)).all (·.1.isSome) = true) (hpl : (backTo pos (starEach (e :: rest) env)).any (·.1) = false) (hkw : (backToKw pos (keywordEach kws env)).any (·.1.isNone) = false)
    (h : wpAny M A (spliced (backTo pos (starEach (e :: rest) env))) (fun vs s₁ => wpAny M A (evalAll ((backToKw pos (keywordEach kws env)).map (·.2))) (fun ks s₂ => wpAny M A (call (.type T) vs (((backToKw pos (keywordEach kws env)).filterMap (·.1)).zip ks)) Q E s₂) E s₁) E s)
    (he : starEach (e :: rest) env = (false, eval e env) :: starEach rest env) : wpAny M A (callWith pos (.type T) [] (backTo pos (starEach (e :: rest) env)) (backToKw pos (keywordEach kws env))) Q E s := by
  unfold callWith
  refine wpAny_bind (wpAny_holding (evalArgs_kw2 hall (wpAny_mono h (fun vs s₁ h₁ => wpAny_mono h₁ (fun ks s₂ h₂ => ?_) fun _ _ x => x) fun _ _ x => x) he))
  refine wpAny_bind (wpAny_standAt ?_)
  simp only [hpl, hkw, Bool.or_false]
  refine wpAny_bind (wpAny_pure ?_)
  exact wpAny_bind (wpAny_mono h₂ (fun r s₃ hr => wpAny_bind (wpAny_holding (wpAny_point (wpAny_pure hr)))) fun _ _ x => x)
end
/-- zip(a, b, strict=True) is walked -/
def iZs (K : PySem.W.Frag) (ta : TA) : TI := fun σ H R => ta σ H fun vs H1 => ∃ a b xs ys, vs = [.ref a, .ref b] ∧ ((SqL K H1 a xs ∧ SqL K H1 b ys ∧ R (Itk kdL kdL K a b) H1) ∨ (SqL K H1 a xs ∧ SqT K H1 b ys ∧ R (Itk kdL kdT K a b) H1) ∨ (SqT K H1 a xs ∧ SqL K H1 b ys ∧ R (Itk kdT kdL K a b) H1) ∨ (SqT K H1 a xs ∧ SqT K H1 b ys ∧ R (Itk kdT kdT K a b) H1))
theorem pie_zs {X : Cx} {pins : List (Addr × Obj)} {σ : L2.St} {s : Shared} {H : Hp} {elts : List Expr} {kk : Nat} {tpos : Pos} {R : It → Hp → Prop} {k1 k2 : Kd} (o1 : KdOk k1) (o2 : KdOk k2) {c1 c2 : String} {a b : Addr} {g : Heap} (I : L2.Inv X pins σ H s) (la : a < s.heap.objs.size) (lb : b < s.heap.objs.size)
    (Z : ZsNew c1 c2 s.heap.objs.size a b s.heap g) (t1 : k1.It g s.heap.objs.size a 0) (t2 : k2.It g (s.heap.objs.size + 1) b 0) (q : R (Itk k1 k2 X.K a b) H) : PIE X pins σ (.Tuple elts kk tpos) R (.ref (s.heap.objs.size + 4)) { s with heap := g } := by
  refine ⟨s.heap.objs.size + 4, [s.heap.objs.size + 4, s.heap.objs.size + 2, s.heap.objs.size + 3, s.heap.objs.size, s.heap.objs.size + 1], _, _, H, rfl, I.kept (t' := s.toks) Z.keep, turn_zs o1 o2 (PySem.W.ktu_apart s.heap.objs.size a b la lb), ⟨Z.z, Z.ti, ⟨_, _, Z.to⟩, t1, t2⟩, fun c hc => ?_, q⟩
  have le : s.heap.objs.size ≤ c := by
    simp only [List.mem_cons, List.not_mem_nil, or_false] at hc
    rcases hc with rfl | rfl | rfl | rfl | rfl
    · exact Nat.le_add_right _ _
    · exact Nat.le_add_right _ _
    · exact Nat.le_add_right _ _
    · exact Nat.le_refl _
    · exact Nat.le_add_right _ _
  exact I.fpOk le (I.hok.fresh le)
theorem pi_zs {X : Cx} {e e2 : Expr} {ta : TA} {p pos tpos cp kp : Pos} {elts : List Expr} {kk cu : Nat} (hg : Gl X "zip") (hm : X.mg "zip" = none) (ha : PA X [e, e2] ta)
    (hs : starEach [e, e2] X.env = (false, eval e X.env) :: starEach [e2] X.env := by rfl) (hpl : (backTo pos (starEach [e, e2] X.env)).any (·.1) = false := by rfl) :
    PI X (.Tuple elts kk tpos) (.Call (.Name "zip" p) [e, e2] [⟨some "strict", .Constant (.bool true) cu cp, kp⟩] pos) (iZs X.K ta) := by
  refine ⟨fun pins s σ H R I h => ?_⟩
  refine wpAny_Call_Name_kw (ld_blt I hg hm PyProof.Rows.boot_zip (cw_kw rfl hpl rfl (thn (ha.run pos pins s σ H _ I h) fun us s1 ⟨vs, H1, I1, r1, q1⟩ => ?_) hs))
  refine thn ((pk_cons (nm := some "strict") (kpos := kp) (pe_bl (X := X) (b := true)) pk_nil).run pos pins s1 σ H1 (fun zs H2 => zs = [.bl true] ∧ ∃ a b xs ys, vs = [.ref a, .ref b] ∧ ((SqL X.K H2 a xs ∧ SqL X.K H2 b ys ∧ R (Itk kdL kdL X.K a b) H2) ∨ (SqL X.K H2 a xs ∧ SqT X.K H2 b ys ∧ R (Itk kdL kdT X.K a b) H2) ∨ (SqT X.K H2 a xs ∧ SqL X.K H2 b ys ∧ R (Itk kdT kdL X.K a b) H2) ∨ (SqT X.K H2 a xs ∧ SqT X.K H2 b ys ∧ R (Itk kdT kdT X.K a b) H2))) I1 ⟨rfl, q1⟩) fun ws s2 ⟨zs, H2, I2, r2, ez, a, b, xs, ys, ev, q2⟩ => ?_
  subst ez ev
  have e1 : us = [.ref a, .ref b] := by
    cases r1 with
    | cons r rr => cases rr with
      | cons r' rr =>
        cases rr
        cases r
        cases r'
        rfl
  have e2 : ws = [.bool true] := by
    cases r2 with
    | cons r rr =>
      cases rr
      cases r
      rfl
  subst e1 e2
  rcases q2 with ⟨hx, hy, q⟩ | ⟨hx, hy, q⟩ | ⟨hx, hy, q⟩ | ⟨hx, hy, q⟩
  · obtain ⟨_, _, p1, la⟩ := kdL_ok.read X pins σ H2 s2 a xs I2 hx
    obtain ⟨_, _, p2, lb⟩ := kdL_ok.read X pins σ H2 s2 b ys I2 hy
    exact zs_callLL p1 p2 fun h' Z => zs_iter Z.z (pie_zs kdL_ok kdL_ok I2 la lb Z ⟨_, Z.i1, rfl, rfl⟩ ⟨_, Z.i2, rfl, rfl⟩ q)
  · obtain ⟨_, _, p1, la⟩ := kdL_ok.read X pins σ H2 s2 a xs I2 hx
    obtain ⟨_, _, p2, lb⟩ := kdT_ok.read X pins σ H2 s2 b ys I2 hy
    exact zs_callLT p1 p2 fun h' Z => zs_iter Z.z (pie_zs kdL_ok kdT_ok I2 la lb Z ⟨_, Z.i1, rfl, rfl⟩ ⟨_, Z.i2, rfl, rfl⟩ q)
  · obtain ⟨_, _, p1, la⟩ := kdT_ok.read X pins σ H2 s2 a xs I2 hx
    obtain ⟨_, _, p2, lb⟩ := kdL_ok.read X pins σ H2 s2 b ys I2 hy
    exact zs_callTL p1 p2 fun h' Z => zs_iter Z.z (pie_zs kdT_ok kdL_ok I2 la lb Z ⟨_, Z.i1, rfl, rfl⟩ ⟨_, Z.i2, rfl, rfl⟩ q)
  · obtain ⟨_, _, p1, la⟩ := kdT_ok.read X pins σ H2 s2 a xs I2 hx
    obtain ⟨_, _, p2, lb⟩ := kdT_ok.read X pins σ H2 s2 b ys I2 hy
    exact zs_callTT p1 p2 fun h' Z => zs_iter Z.z (pie_zs kdT_ok kdT_ok I2 la lb Z ⟨_, Z.i1, rfl, rfl⟩ ⟨_, Z.i2, rfl, rfl⟩ q)
end DL
namespace DL
open PySem L2 PyProof.Rows
def pairD (x y : PyData) : PyData := .tuple [x, y]
def izR (o : Option (List PyData)) (ρ : Rho) : Option (Oe (List PyData)) := match o with
  | some [d, e] => match itemsOf d, itemsOf e with
    | some xs, some ys => if xs.length = ys.length then some (.ok (List.zipWith pairD xs ys) ρ) else none
    | _, _ => none
  | _ => none
def izM (f : AM) : IM := fun ρ => bindO (f ρ) fun rs ρ1 => izR (dats rs) ρ1
@[simp] theorem izM_e (f : AM) (ρ : Rho) : izM f ρ = bindO (f ρ) fun rs ρ1 => izR (dats rs) ρ1 := eqI rfl
@[simp] theorem izR_ll (xs ys : List PyData) (ρ : Rho) : izR (some [.list xs, .list ys]) ρ = if xs.length = ys.length then some (.ok (List.zipWith pairD xs ys) ρ) else none := eqI rfl
@[simp] theorem izR_lt (xs ys : List PyData) (ρ : Rho) : izR (some [.list xs, .tuple ys]) ρ = if xs.length = ys.length then some (.ok (List.zipWith pairD xs ys) ρ) else none := eqI rfl
@[simp] theorem izR_tl (xs ys : List PyData) (ρ : Rho) : izR (some [.tuple xs, .list ys]) ρ = if xs.length = ys.length then some (.ok (List.zipWith pairD xs ys) ρ) else none := eqI rfl
@[simp] theorem izR_tt (xs ys : List PyData) (ρ : Rho) : izR (some [.tuple xs, .tuple ys]) ρ = if xs.length = ys.length then some (.ok (List.zipWith pairD xs ys) ρ) else none := eqI rfl
section
variable {T : Tb} {H : Hp} {F : Reg}
/-- what stands at v is walked, and stays -/
theorem walk_of {v : V} {d : PyData} {ds : List PyData} (h : DF T.K H F v d) (e : itemsOf d = some ds) : ∃ a vs, v = .ref a ∧ DFs T.K H F vs ds ∧ ((∀ H', Kept F H H' → SqL T.K H' a vs) ∨ (∀ H', Kept F H H' → SqT T.K H' a vs)) := by
  cases h with
  | lst f r s => cases e; exact ⟨_, _, rfl, s, .inl fun H' k => .inl (k.rdF f r)⟩
  | lstK r s => cases e; exact ⟨_, _, rfl, s, .inl fun H' k => LsR.sq (.inr r)⟩
  | tup r s => cases e; exact ⟨_, _, rfl, s, .inr fun H' k => k.sqT r⟩
  | non => cases e
  | bl b => cases e
  | int i => cases e
  | str x => cases e
  | dct a b c => cases e
  | dcT a b c d => cases e
theorem it_zs {k1 k2 : Kd} {a b : Addr} {vs us : List V} {xs ys : List PyData} (h1 : ∀ H', Kept F H H' → k1.Sq T.K H' a vs) (h2 : ∀ H', Kept F H H' → k2.Sq T.K H' b us) (s1 : DFs T.K H F vs xs) (s2 : DFs T.K H F us ys) (hl : xs.length = ys.length) : ItOk T (Itk k1 k2 T.K a b) F H (List.zipWith pairD xs ys) where
  go := fun H' k i d hd => by
    rw [List.getElem?_zipWith] at hd
    cases e1 : xs[i]? with
    | none => rw [e1] at hd; cases hd
    | some x =>
      cases e2 : ys[i]? with
      | none => rw [e1, e2] at hd; cases hd
      | some y =>
        rw [e1, e2] at hd
        cases hd
        obtain ⟨v, hv, dv⟩ := s1.get e1
        obtain ⟨u, hu, du⟩ := s2.get e2
        refine ⟨⟨vs, us, v, u, h1 H' k, h2 H' k, hv, hu⟩, ?_⟩
        rintro w H'' ⟨t, p, q, rfl, ht, rfl, f1, f2⟩
        have ep := f1 _ (h1 H' k)
        have eq := f2 _ (h2 H' k)
        rw [hv] at ep
        rw [hu] at eq
        cases ep
        cases eq
        have k2' : Kept F H (upd H' t (.tup [v, u])) := fun b o h z => kept_new ht b o (k b o h z)
        exact ⟨kept_new ht, .tup (.inl (.inl upd_same)) (.cons (dv.mono k2' fun _ h => h) (.cons (du.mono k2' fun _ h => h) .nil))⟩
  stop := fun H' k i h1' h2' => by
    rw [List.length_zipWith] at h1' h2'
    exact ⟨vs, us, h1 H' k, h2 H' k, by rw [s1.length]; omega, by rw [s2.length]; omega⟩
end
section
variable {X : Cx} {T : Tb} {W : WX} {n : Nat} {N : List Str} {sc : Scope} {pos p tpos cp kp : Pos} {e e2 : Expr} {fa : AM} {elts : List Expr} {kk cu : Nat}
theorem e_zs (a : At X N sc) (cx : Cxt X T W n) (hx : gnB sc "zip" = true) (hm : X.mg "zip" = none) (ha : SA X T W [e, e2] fa)
    (hs : starEach [e, e2] X.env = (false, eval e X.env) :: starEach [e2] X.env := by rfl) (hpl : (backTo pos (starEach [e, e2] X.env)).any (·.1) = false := by rfl) :
    SI X T W (.Tuple elts kk tpos) (.Call (.Name "zip" p) [e, e2] [⟨some "strict", .Constant (.bool true) cu cp, kp⟩] pos) (izM fa) := by
  refine pi_imp (pi_zs (a.gl hx).1 hm ha hs hpl) fun σ H Q ⟨ρ, F, O, E, P⟩ => ?_
  rw [cx.hK]
  refine stp .refl E P fun vs H1 rs ρ1 F1 O1 x1 y1 E1 r1 P1 => ?_
  cases q : dats rs with
  | none => rw [q] at P1; exact P1.elim
  | some ds =>
    rw [q] at P1
    have sd := dats_dfs r1 q
    unfold izR at P1
    split at P1
    · rename_i d d' hds
      cases hds
      split at P1
      · rename_i xs ys i1 i2
        split at P1
        · rename_i hl
          cases sd with
          | cons s1 sr => cases sr with
            | cons s2 sn =>
              cases sn
              obtain ⟨b1, v1, rfl, t1, k1⟩ := walk_of s1 i1
              obtain ⟨b2, v2, rfl, t2, k2⟩ := walk_of s2 i2
              refine ⟨b1, b2, v1, v2, rfl, ?_⟩
              rcases k1 with k1 | k1 <;> rcases k2 with k2 | k2
              · exact .inl ⟨k1 _ .refl, k2 _ .refl, P1 _ _ _ _ y1 E1 (it_zs (k1 := kdL) (k2 := kdL) k1 k2 t1 t2 hl)⟩
              · exact .inr (.inl ⟨k1 _ .refl, k2 _ .refl, P1 _ _ _ _ y1 E1 (it_zs (k1 := kdL) (k2 := kdT) k1 k2 t1 t2 hl)⟩)
              · exact .inr (.inr (.inl ⟨k1 _ .refl, k2 _ .refl, P1 _ _ _ _ y1 E1 (it_zs (k1 := kdT) (k2 := kdL) k1 k2 t1 t2 hl)⟩))
              · exact .inr (.inr (.inr ⟨k1 _ .refl, k2 _ .refl, P1 _ _ _ _ y1 E1 (it_zs (k1 := kdT) (k2 := kdT) k1 k2 t1 t2 hl)⟩))
        · exact P1.elim
      · exact P1.elim
    · exact P1.elim
end
end DL
namespace DL
open PySem L2
end DL
namespace DL
open PySem L2
theorem q_num {t b : Int} (hb : 0 < b) : (Rat.divInt t b).num = t.fdiv (Int.gcd t b : Int) := by
  rw [Rat.num_divInt, Int.sign_eq_one_of_pos hb, Int.one_mul, Int.gcd_comm, Int.fdiv_eq_ediv_of_nonneg _ (by omega)]
theorem q_den {t b : Int} (hb : 0 < b) : ((Rat.divInt t b).den : Int) = b.fdiv (Int.gcd t b : Int) := by
  rw [Rat.den_divInt, if_neg (by omega), Int.gcd_comm, Int.fdiv_eq_ediv_of_nonneg _ (by omega)]
  obtain ⟨n, rfl⟩ := Int.eq_ofNat_of_zero_le (show 0 ≤ b by omega)
  rw [Int.natAbs_natCast]
  rfl
/-- a number that fits into so many bits -/
structure Sz (k : Nat) (q : Rat) : Prop where
  n : q.num.natAbs < 2 ^ k
  d : q.den < 2 ^ k
theorem Sz.mono {k m : Nat} {q : Rat} (h : Sz k q) (l : k ≤ m) : Sz m q :=
  ⟨Nat.lt_of_lt_of_le h.n (Nat.pow_le_pow_right (by decide) l), Nat.lt_of_lt_of_le h.d (Nat.pow_le_pow_right (by decide) l)⟩
theorem Sz.mk' {k : Nat} {n : Int} {d : Nat} (h1 : n.natAbs < 2 ^ k) (h2 : d < 2 ^ k) (h3 : d ≠ 0) : Sz k (mkRat n d) := by
  constructor
  · rw [Rat.num_mkRat, if_neg h3]
    exact Nat.lt_of_le_of_lt (Int.natAbs_ediv_le_natAbs ..) h1
  · rw [Rat.den_mkRat, if_neg h3]
    exact Nat.lt_of_le_of_lt (Nat.div_le_self ..) h2
theorem Sz.divInt {k : Nat} {n d : Int} (h1 : n.natAbs < 2 ^ k) (h2 : d < 2 ^ k) (h3 : 0 < d) : Sz k (Rat.divInt n d) := by
  obtain ⟨m, rfl⟩ := Int.eq_ofNat_of_zero_le (show 0 ≤ d by omega)
  have e : Rat.divInt n ((m : Nat) : Int) = mkRat n m := Rat.divInt_ofNat n m
  show Sz k (Rat.divInt n ((m : Nat) : Int))
  rw [e]
  exact Sz.mk' h1 (by exact_mod_cast h2) (by omega)
theorem Sz.int {k : Nat} {i : Int} (h : i.natAbs < 2 ^ k) (hk : 0 < k) : Sz k (i : Rat) := ⟨by rw [Rat.num_intCast]; exact h, by rw [Rat.den_intCast]; exact Nat.one_lt_two_pow (by omega)⟩
theorem q_pos (p : Rat) : 0 < (p.den : Int) := by have := p.den_pos; omega
/-- a fraction as data -/
def frQ (q : Rat) : PyData := .tuple [.int q.num, .int (q.den : Int)]
theorem frQ_low {t b : Int} (hb : 0 < b) : PyData.tuple [.int (t.fdiv (Int.gcd t b : Int)), .int (b.fdiv (Int.gcd t b : Int))] = frQ (Rat.divInt t b) := by
  unfold frQ
  rw [q_num hb, q_den hb]
end DL
namespace DL
open PySem L2
/-- a span: begin, until, kind -/
structure Sp where
  b : Int
  u : Int
  k : Int
def Sp.d (s : Sp) : PyData := .tuple [.int s.b, .int s.u, .int s.k]
structure Sp.Ok (s : Sp) : Prop where
  b0 : 0 ≤ s.b
  bu : s.b < s.u
  u9 : s.u ≤ 999
  k0 : 0 ≤ s.k
  k4 : s.k ≤ 4
theorem Sp.eqb (s : Sp) : Eqb 1 s.d := Eqb.tuple (m := 0) (by simp [Eqb.int])
theorem len_fm {α : Type} (p : α → Bool) (x : PyData) (L : List α) : (L.filterMap fun s => if p s = true then some x else none).length = L.countP p := by
  induction L with
  | nil => rfl
  | cons s r ih =>
    rw [List.filterMap_cons, List.countP_cons]
    cases p s <;> simp [ih]
theorem rp_spn {s : Sp} (h1 : 0 ≤ s.b ∧ s.b ≤ 9999) (h2 : 0 ≤ s.u ∧ s.u ≤ 9999) (h3 : 0 ≤ s.k ∧ s.k ≤ 4) : Rp 48 1 s.d := by
  refine Rp.tuple (n := 13) (m := 0) (k := 3) ?_ (by simp)
  intro d hd
  simp only [List.mem_cons, List.not_mem_nil, or_false] at hd
  rcases hd with rfl | rfl | rfl
  · exact Rp.int (by omega)
  · exact Rp.int (by omega)
  · exact Rp.int (by omega)
theorem rp_spans {α : Type} {L : List α} {f : α → Sp} (h : ∀ s ∈ L, (0 ≤ (f s).b ∧ (f s).b ≤ 9999) ∧ (0 ≤ (f s).u ∧ (f s).u ≤ 9999) ∧ 0 ≤ (f s).k ∧ (f s).k ≤ 4) (h2 : L.length ≤ 40) : Rp 2003 2 (.tuple (L.map fun s => (f s).d)) := by
  refine Rp.tuple (n := 48) (m := 1) (k := 40) ?_ (by simpa using h2)
  intro d hd
  obtain ⟨s, hs, rfl⟩ := List.mem_map.mp hd
  obtain ⟨a, b, c⟩ := h s hs
  exact rp_spn a b c
theorem gcd_step {a b : Int} : Int.gcd b (a.fmod b) = Int.gcd a b := by
  have e : a.fmod b = a - b * a.fdiv b := by
    have := Int.mul_fdiv_add_fmod a b
    omega
  rw [e]
  apply Nat.dvd_antisymm
  · refine Int.dvd_gcd ?_ ?_
    · have h1 := Int.gcd_dvd_left b (a - b * a.fdiv b)
      have h2 := Int.gcd_dvd_right b (a - b * a.fdiv b)
      have := Int.dvd_add h2 (Int.dvd_mul_of_dvd_left (b := b) (c := a.fdiv b) h1)
      simpa using this
    · exact Int.gcd_dvd_left ..
  · refine Int.dvd_gcd (Int.gcd_dvd_right ..) ?_
    exact Int.dvd_sub (Int.gcd_dvd_left ..) (Int.dvd_mul_of_dvd_left (Int.gcd_dvd_right ..))
/-- a fraction in lowest terms -/
def low (t b : Int) : PyData := .tuple [.int (t.fdiv (Int.gcd t b : Int)), .int (b.fdiv (Int.gcd t b : Int))]
theorem gcd_bd {t b : Int} (hb : 0 < b) : 0 < (Int.gcd t b : Int) ∧ (Int.gcd t b : Int) ≤ b := by
  have h1 : 0 < Int.gcd t b := Int.gcd_pos_of_ne_zero_right t (by omega)
  have h2 : (Int.gcd t b : Int) ∣ b := Int.gcd_dvd_right ..
  exact ⟨by omega, Int.le_of_dvd hb h2⟩
theorem two_pow_lt {a b : Nat} (h : a ≤ b) : (2 : Int) ^ a ≤ 2 ^ b := by exact_mod_cast Nat.pow_le_pow_right (show 0 < 2 by decide) h
theorem lt8000 {n : Int} (h : n < 2 ^ 64) : n < 2 ^ 8000 := Int.lt_of_lt_of_le h (two_pow_lt (by decide))
theorem low_q {t b : Int} (hb : 0 < b) : low t b = frQ (Rat.divInt t b) := frQ_low hb
theorem rp_bk {L : List Sp} (h : ∀ s ∈ L, s.Ok) (h2 : L.length ≤ 40) : reprD (.tuple (L.map Sp.d)) = some (.dat (.str (PyData.shown (.tuple (L.map Sp.d))))) := by
  refine (rp_spans (f := fun s => s) (fun s hs => ?_) h2).reprD (by decide) (by decide)
  obtain ⟨q1, q2, q3, q4, q5⟩ := h s hs
  exact ⟨⟨by omega, by omega⟩, ⟨by omega, by omega⟩, by omega, by omega⟩
theorem natAbs_lt {i : Int} {n : Nat} (h1 : 0 ≤ i) (h2 : i < 2 ^ n) : i.natAbs < 2 ^ n := by
  obtain ⟨m, rfl⟩ := Int.eq_ofNat_of_zero_le h1
  rw [Int.natAbs_natCast]
  exact_mod_cast h2
def slR (o : Option PyData) (a b : Option Int) (ρ : Rho) : Option (Oe R) := match o with
  | some d => retO (slD d a b) ρ
  | none => none
def ptR (r : R) (ρ : Rho) : Option (Oe (Option Int)) := match r with
  | .dat (.int i) => some (.ok (some i) ρ)
  | _ => none
@[simp] theorem slR_e (d : PyData) (a b : Option Int) (ρ : Rho) : slR (some d) a b ρ = retO (slD d a b) ρ := eqI rfl
@[simp] theorem ptR_e (i : Int) (ρ : Rho) : ptR (.dat (.int i)) ρ = some (.ok (some i) ρ) := eqI rfl
@[simp] theorem ptM_0 (ρ : Rho) : ptM none ρ = some (.ok none ρ) := eqI rfl
@[simp] theorem ptM_1 (f : EM) (ρ : Rho) : ptM (some f) ρ = bindO (f ρ) ptR := eqI rfl
@[simp] theorem slM_e (fe : EM) (lo hi : Option EM) (ρ : Rho) : slM fe lo hi ρ = bindO (fe ρ) fun r ρ1 => bindO (ptM lo ρ1) fun a ρ2 => bindO (ptM hi ρ2) fun b ρ3 => slR (val ρ3 r) a b ρ3 := by
  unfold slM
  congr 1
  funext r ρ1
  congr 1
  funext a ρ2
  congr 1
  funext b ρ3
  cases val ρ3 r with
  | none => rfl
  | some d => exact map_retO _ _
@[simp] theorem slD_l (ds : List PyData) (a b : Option Int) : slD (.list ds) a b = some (.own (.list (cutD ds a b))) := eqI rfl
@[simp] theorem slD_t (ds : List PyData) (a b : Option Int) : slD (.tuple ds) a b = some (.dat (.tuple (cutD ds a b))) := eqI rfl
theorem cut_from (xs : List PyData) {i : Int} (h : 0 ≤ i) : cutD xs (some i) none = xs.drop i.toNat := by
  unfold cutD HT.sIx
  simp only
  rw [if_neg (by omega)]
  by_cases c : i.toNat ≤ xs.length
  · rw [Nat.min_eq_left c, List.take_of_length_le (by rw [List.length_drop]; omega)]
  · rw [Nat.min_eq_right (by omega), List.drop_eq_nil_of_le (by omega : xs.length ≤ i.toNat), List.drop_length, List.take_nil]
@[simp] theorem cut_1 (x : PyData) (xs : List PyData) : cutD (x :: xs) (some 1) none = xs := by rw [cut_from _ (by decide)]; rfl
/-- a top and a bottom that fit into so many bits -/
structure Sp2 (k : Nat) (a b : Int) : Prop where
  n : a.natAbs < 2 ^ k
  p : 0 < b
  d : b.natAbs < 2 ^ k
theorem Sz.r {k : Nat} {q : Rat} (h : Sz k q) : Sp2 k q.num (q.den : Int) := ⟨h.n, q_pos q, by rw [Int.natAbs_natCast]; exact h.d⟩
theorem Sp2.lt {j k : Nat} {a b c d : Int} (h1 : Sp2 j a b) (h2 : Sp2 k c d) (l : j + k ≤ 8000) : b * d < 2 ^ 8000 := by
  obtain ⟨m, rfl⟩ := Int.eq_ofNat_of_zero_le (Int.le_of_lt h1.p)
  obtain ⟨n, rfl⟩ := Int.eq_ofNat_of_zero_le (Int.le_of_lt h2.p)
  have hm := h1.d
  have hn := h2.d
  rw [Int.natAbs_natCast] at hm hn
  have a := Nat.mul_lt_mul'' hm hn
  rw [← Nat.pow_add] at a
  have a := Nat.lt_of_lt_of_le a (Nat.pow_le_pow_right (show 0 < 2 by decide) l)
  have b : ((m * n : Nat) : Int) < ((2 ^ 8000 : Nat) : Int) := Int.ofNat_lt.mpr a
  rw [Int.natCast_mul, Int.natCast_pow] at b
  exact b
theorem dPlus_lc {i j : List PyData} (h : i.length + j.length ≤ 100000) : dPlus (.list i) (.list j) = some (.own (.list (i ++ j))) := if_pos h
theorem dPlus_tc {i j : List PyData} (h : i.length + j.length ≤ 100000) : dPlus (.tuple i) (.tuple j) = some (.dat (.tuple (i ++ j))) := if_pos h
/-- the law's loop over its cells -/
theorem loopK {body : SM} {ns : List Int} (P : Rho → Prop) (hb : ∀ (k : Nat) (es : Rho), P es → ∃ e1 es', body (some (.dat (.list (ns.map .int))) :: some (.dat (.int k)) :: es) = some (.nx (some (.dat (.list (ns.map .int))) :: e1 :: es')) ∧ P es') (n : Nat) (e1 : Option R) (es : Rho) (h : P es) :
    ∃ e1' es', forL (gnM 1) body (rngL 0 n) (some (.dat (.list (ns.map .int))) :: e1 :: es) = some (.nx (some (.dat (.list (ns.map .int))) :: e1' :: es')) ∧ P es' := by
  obtain ⟨ρ', e, _, e1', es', rfl, h'⟩ := forL_inv (g := gnM 1) (body := body) (fun xs ρ => (∀ y ∈ xs, ∃ k : Nat, y = .int k) ∧ ∃ e1 es, ρ = some (.dat (.list (ns.map .int))) :: e1 :: es ∧ P es) (rngL 0 n) (some (.dat (.list (ns.map .int))) :: e1 :: es)
    ⟨fun x hx => by obtain ⟨k, _, rfl⟩ := rngL_mem hx; exact ⟨k, by rw [Int.zero_add]⟩, _, _, rfl, h⟩ (by
      rintro x r ρ ⟨hx, e1, es, rfl, h⟩
      obtain ⟨k, rfl⟩ := hx x (List.mem_cons_self ..)
      obtain ⟨e1', es', e, h'⟩ := hb k es h
      exact ⟨_, _, rfl, .inl e, fun y hy => hx y (List.mem_cons_of_mem _ hy), _, _, rfl, h'⟩)
  exact ⟨e1', es', e, h'⟩
/-- how often it turns -/
theorem turns_is {ns : List Int} {c : Int} (hc : 0 ≤ c ∧ c ≤ 100) : ∃ m : Nat, ∀ ρ, rg1 (.dat (.int (if (if c < ns.length then c else (ns.length : Int)) > 1 then (if c < ns.length then c else (ns.length : Int)) else 1))) ρ = some (.ok (rngL 0 m) ρ) :=
  ⟨_, fun ρ => rg1_is ρ (by split <;> split <;> omega) (by split <;> split <;> omega)⟩
end DL
namespace DL
open PySem PyProof.Rows
open L2 hiding Sp
open Builtin.SmallTypes (nextOf nextOrEnd)
def ipR (o : Option (List PyData)) (ρ : Rho) : Option (Oe (List PyData)) := match o with
  | some [d, e] => match itemsOf d, itemsOf e with
    | some xs, some ys => some (.ok (List.zipWith pairD xs ys) ρ)
    | _, _ => none
  | _ => none
def ipM (f : AM) : IM := fun ρ => bindO (f ρ) fun rs ρ1 => ipR (dats rs) ρ1
@[simp] theorem ipM_e (f : AM) (ρ : Rho) : ipM f ρ = bindO (f ρ) fun rs ρ1 => ipR (dats rs) ρ1 := eqI rfl
@[simp] theorem ipR_ll (xs ys : List PyData) (ρ : Rho) : ipR (some [.list xs, .list ys]) ρ = some (.ok (List.zipWith pairD xs ys) ρ) := eqI rfl
@[simp] theorem ipR_lt (xs ys : List PyData) (ρ : Rho) : ipR (some [.list xs, .tuple ys]) ρ = some (.ok (List.zipWith pairD xs ys) ρ) := eqI rfl
@[simp] theorem ipR_tl (xs ys : List PyData) (ρ : Rho) : ipR (some [.tuple xs, .list ys]) ρ = some (.ok (List.zipWith pairD xs ys) ρ) := eqI rfl
@[simp] theorem ipR_tt (xs ys : List PyData) (ρ : Rho) : ipR (some [.tuple xs, .tuple ys]) ρ = some (.ok (List.zipWith pairD xs ys) ρ) := eqI rfl
end DL
namespace DL
open PySem PyProof.Rows
open L2 hiding Sp
open AutoSeq1 (wpAny_loadPart')
def enumL (ds : List PyData) : List PyData := ds.mapIdx fun i d => .tuple [.int (i : Int), d]
def enR (o : Option PyData) (ρ : Rho) : Option (Oe (List PyData)) := match o with
  | some d => match itemsOf d with
    | some xs => some (.ok (enumL xs) ρ)
    | none => none
  | none => none
def enM (f : EM) : IM := fun ρ => bindO (f ρ) fun r ρ1 => bindF (frz ρ1 r) fun d ρ2 => enR (some d) ρ2
@[simp] theorem enM_e (f : EM) (ρ : Rho) : enM f ρ = bindO (f ρ) fun r ρ1 => bindF (frz ρ1 r) fun d ρ2 => enR (some d) ρ2 := eqI rfl
@[simp] theorem enR_l (xs : List PyData) (ρ : Rho) : enR (some (.list xs)) ρ = some (.ok (enumL xs) ρ) := eqI rfl
@[simp] theorem enR_t (xs : List PyData) (ρ : Rho) : enR (some (.tuple xs)) ρ = some (.ok (enumL xs) ρ) := eqI rfl
end DL
namespace DL
open PySem PyProof.Rows
open L2 hiding Sp
def popR (i : Nat) (r : R) (ρ : Rho) (o : Option (Option R)) : Option (Oe R) := match r, o with
  | .dat (.int k), some (some (.own (.list ds))) => if ds.length ≤ lim then match ixN ds.length k with
    | some j => match ds[j]? with
      | some d => some (.ok (.dat d) (ρ.set i (some (.own (.list (ds.eraseIdx j))))))
      | none => none
    | none => none
    else none
  | _, _ => none
def popM (i : Nat) (fe : EM) : EM := fun ρ => if isList ρ[i]? = true then bindO (fe ρ) fun r ρ1 => popR i r ρ1 ρ1[i]? else none
@[simp] theorem popM_e (i : Nat) (fe : EM) (ρ : Rho) : popM i fe ρ = pick (isList ρ[i]?) (fun ρ => bindO (fe ρ) fun r ρ1 => popR i r ρ1 ρ1[i]?) (fun _ => none) ρ := eqI rfl
theorem popR_is {i : Nat} {k : Int} {ρ : Rho} {ds : List PyData} {d : PyData} (h0 : 0 ≤ k) (h : ds[k.toNat]? = some d) (hl : ds.length ≤ 100000) : popR i (.dat (.int k)) ρ (some (some (.own (.list ds)))) = some (.ok (.dat d) (ρ.set i (some (.own (.list (ds.eraseIdx k.toNat)))))) := by
  have hk : k.toNat < ds.length := (List.getElem?_eq_some_iff.mp h).1
  have e : ixN ds.length k = some k.toNat := by unfold ixN; rw [if_pos h0, if_pos (by omega)]
  show (if ds.length ≤ lim then _ else _) = _
  rw [if_pos hl, e]
  show (match ds[k.toNat]? with | some d => some (Oe.ok (R.dat d) (ρ.set i (some (.own (.list (ds.eraseIdx k.toNat)))))) | none => none) = _
  rw [h]
theorem DFs.eraseIdx {K : PySem.W.Frag} {H : Hp} {F : Addr → Prop} : ∀ {vs : List V} {ds : List PyData} (i : Nat), DFs K H F vs ds → DFs K H F (vs.eraseIdx i) (ds.eraseIdx i)
  | _, _, _, .nil => .nil
  | _, _, 0, .cons _ b => b
  | _, _, i + 1, .cons a b => .cons a (DFs.eraseIdx i b)
def clrM (i : Nat) : SM := fun ρ => if isList ρ[i]? = true then some (.nx (ρ.set i (some (.own (.list []))))) else none
@[simp] theorem clrM_e (i : Nat) (ρ : Rho) : clrM i ρ = pick (isList ρ[i]?) (fun ρ => some (.nx (ρ.set i (some (.own (.list [])))))) (fun _ => none) ρ := eqI rfl
section
variable {X : Cx} {T : Tb} {W : WX} {φ : Fm} {e ei : Expr} {fe fi : EM} {pos p apos : Pos} {i : Nat} {x : Str}
theorem se_pop {ex : Expr} (h : PE X ex (tBM X.K "list" rPopAt (tVar i) (tCons (Tof T W (tlE T) fe) tNil))) : SE X T W ex (popM i fe) := by
  refine pe_imp h fun σ H Q ⟨ρ, F, O, E, P⟩ => ?_
  unfold popM at P
  split at P
  · rename_i hi
    obtain ⟨ds0, q0⟩ := isList_ex hi
    obtain ⟨a, vs0, h1, h2, h3, h4⟩ := own_lst E q0
    refine ⟨.ref a, h1, .inl ⟨rfl, vs0, .inl (.inl h3)⟩, ?_⟩
    refine stp .refl E P fun v H1 r ρ1 F1 O1 x1 y1 E1 r1 P1 => ?_
    unfold popR at P1
    split at P1
    · rename_i k ds q2
      split at P1
      · rename_i hz
        split at P1
        · rename_i j ej
          split at P1
          · rename_i d ed
            obtain ⟨b, vs, g1, g2, g3, g4⟩ := own_lst E1 q2
            rw [h1] at g1
            cases g1
            obtain ⟨u, eu, du⟩ := g4.get ed
            obtain ⟨i1, i2, i3, i4⟩ := ixN_seq ej
            refine ⟨a, vs, k, j, u, rfl, by rw [int_of r1], g3, by simp only [lim] at hz; omega, by simp only [lim] at hz; omega, by rw [g4.length]; exact i1, eu, ?_⟩
            obtain ⟨E3, x3, k3⟩ := E1.mut (o := .lst (vs.eraseIdx j)) (d' := .list (ds.eraseIdx j)) (s := false) q2 g2 fun k => ⟨_, upd_same, (g4.eraseIdx j).mono k fun _ h => h⟩
            exact P1 u _ F1 O1 (y1.trans x3) E3 (du.mono k3 fun _ h => h)
          · exact P1.elim
        · exact P1.elim
      · exact P1.elim
    · exact P1.elim
  · exact P.elim
end
/-- whether a thing is this key -/
def keq : PyData → PyData → Bool
  | .int i, .int j => decide (i = j)
  | .str x, .str y => decide (x = y)
  | _, _ => false
def isKey : PyData → Bool
  | .int _ => true
  | .str _ => true
  | _ => false
/-- what stands at a key -/
def atK : List (PyData × PyData) → PyData → Option PyData
  | [], _ => none
  | (k, d) :: r, y => if keq k y = true then some d else atK r y
theorem keq_kD (k j : Key) : keq (kD k) (kD j) = decide (k = j) := by
  cases k <;> cases j <;> simp [keq, kD]
theorem isKey_ex {d : PyData} (h : isKey d = true) : ∃ k, d = kD k := by
  cases d with
  | int i => exact ⟨.inl i, rfl⟩
  | str x => exact ⟨.inr x, rfl⟩
  | _ => cases h
theorem kD_vw {T : Tb} {H : Hp} {F : Reg} {v : V} {k : Key} (h : Vw T H F v (kD k)) : v = kV k := by
  cases k with
  | inl i => exact h.int
  | inr x => exact h.str
theorem atK_dfk {K : PySem.W.Frag} {H : Hp} {F : Reg} (k : Key) : ∀ {ks : List (Key × V)} {ds : List (PyData × PyData)} {d : PyData}, DFk K H F ks ds → atK ds (kD k) = some d → ∃ v, valV ks k = some v ∧ DF K H F v d
  | _, _, _, .nil, h => by cases h
  | _, _, d, .cons (k := k') (v := v) a b, h => by
    unfold atK at h
    rw [keq_kD] at h
    by_cases e : k' = k
    · rw [if_pos (by simpa using e)] at h
      cases h
      exact ⟨v, valV_pos (p := (k', v)) e, a⟩
    · rw [if_neg (by simpa using e)] at h
      obtain ⟨u, h1, h2⟩ := atK_dfk k b h
      exact ⟨u, by rw [valV_neg (p := (k', v)) e]; exact h1, h2⟩
theorem atK_dft {K : PySem.W.Frag} {H : Hp} {F : Reg} (k : Key) : ∀ {ks : List Ent} {ds : List (PyData × PyData)}, DFt K H F ks ds → atK ds (kD k) = none
  | _, _, .nil => rfl
  | _, _, .cons _ _ a b => by
    unfold atK
    rw [if_neg (by cases k <;> simp [keq, kT, kD])]
    exact atK_dft k b
def rIxK : R2 := fun x y H Q => ∃ a kvs k v, x = .ref a ∧ Rd H a (.dK kvs) ∧ y = kV k ∧ valV kvs k = some v ∧ Q v H
theorem ix_dK {X : Cx} : IxR X rIxK := by
  intro value slice pins s σ H x y v u Q I rx ry h hs
  obtain ⟨a, kvs, k, r, rfl, e, rfl, l, q⟩ := h
  obtain rfl : v = Value.ref a := rx
  obtain ⟨z, hd, vs, rel, dd⟩ := dk_rd I.hok e
  obtain ⟨w', hw, rw'⟩ := RelO.some_of (v := r) (o := valueAt vs k) (by have h := rel.val k; rw [l] at h; exact h)
  exact tail_any dd.typeIs slot_dict_getitem.lookup (wpAny_getItem_of (kV_is ry) dd.mapOf hw ⟨r, H, I.tok _, rw', q⟩) hs
/-- an item of a list, tuple, text or dict -/
def dIxA : PyData → PyData → Option R
  | .dict ds, y => if isKey y = true then (atK ds y).map R.dat else none
  | d, e => dIx d e
@[simp] theorem dIxA_l (xs : List PyData) (i : Int) : dIxA (.list xs) (.int i) = (atI xs i).map R.dat := eqI rfl
@[simp] theorem dIxA_t (xs : List PyData) (i : Int) : dIxA (.tuple xs) (.int i) = (atI xs i).map R.dat := eqI rfl
@[simp] theorem dIxA_s (x : Str) (i : Int) : dIxA (.str x) (.int i) = dIx (.str x) (.int i) := eqI rfl
@[simp] theorem dIxA_ds (ds : List (PyData × PyData)) (x : Str) : dIxA (.dict ds) (.str x) = (atK ds (.str x)).map R.dat := eqI rfl
@[simp] theorem dIxA_di (ds : List (PyData × PyData)) (x : Int) : dIxA (.dict ds) (.int x) = (atK ds (.int x)).map R.dat := eqI rfl
theorem does_ixA {T : Tb} : Does2 T (fun x y H Q => rIx T.K x y H Q ∨ rIxK x y H Q) dIxA := by
  intro x y d e z H F Q lv hx hy hg hq
  unfold dIxA at hg
  split at hg
  · split at hg
    · rename_i ds hk
      obtain ⟨k, rfl⟩ := isKey_ex hk
      obtain ⟨d', e1, e2⟩ := Option.map_eq_some_iff.mp hg
      subst e2
      obtain ⟨a, rfl, ⟨ks, h1, s1⟩ | ⟨o, ks, h1, _, s1⟩⟩ := hx.dctA
      · obtain ⟨v, e3, h3⟩ := atK_dfk k s1 e1
        exact .inr ⟨a, ks, k, v, rfl, h1, kD_vw hy, e3, hq _ H F .refl h3⟩
      · rw [atK_dft k s1] at e1
        cases e1
    · cases hg
  · exact .inl (does_ix x y d e z H F Q lv hx hy hg hq)
section
variable {X : Cx} {T : Tb} {W : WX} {n : Nat} {a b : Expr} {fa fb : EM} {pos : Pos}
theorem e_ixA (c : Cxt X T W n) (ha : SE X T W a fa) (hb : SE X T W b fb) (hs : PlainIx b := by exact fun _ _ => rfl) : SE X T W (.Subscript a b pos) (op2M dIxA fa fb) :=
  se_ix ((c.hK ▸ ix_seq (X := X)).or ix_dK) does_ixA hs ha hb
end
/-- all keys apart -/
def apartK : List (PyData × PyData) → Bool
  | [] => true
  | (k, _) :: r => isKey k && (r.all fun p => !keq k p.1) && apartK r
def prR (rk : R) (o : Option (PyData × Rho)) (k : PyData → PyData → Rho → Option (Oe (List (PyData × PyData)))) : Option (Oe (List (PyData × PyData))) := match rk, o with
  | .dat kd, some (d, ρ) => if isKey kd = true then k kd d ρ else none
  | _, _ => none
@[simp] theorem prR_s (x : Str) (d : PyData) (ρ : Rho) (k : PyData → PyData → Rho → Option (Oe (List (PyData × PyData)))) : prR (.dat (.str x)) (some (d, ρ)) k = k (.str x) d ρ := eqI rfl
@[simp] theorem prR_i (x : Int) (d : PyData) (ρ : Rho) (k : PyData → PyData → Rho → Option (Oe (List (PyData × PyData)))) : prR (.dat (.int x)) (some (d, ρ)) k = k (.int x) d ρ := eqI rfl
def prsM : List (EM × EM) → Rho → Option (Oe (List (PyData × PyData)))
  | [], ρ => some (.ok [] ρ)
  | (fk, fv) :: r, ρ => bindO (fk ρ) fun rk ρ1 => bindO (fv ρ1) fun rv ρ2 => prR rk (frz ρ2 rv) fun kd d ρ3 => bindO (prsM r ρ3) fun ps ρ4 => some (.ok ((kd, d) :: ps) ρ4)
@[simp] theorem prsM_0 (ρ : Rho) : prsM [] ρ = some (.ok [] ρ) := eqI rfl
@[simp] theorem prsM_c (fk fv : EM) (r : List (EM × EM)) (ρ : Rho) : prsM ((fk, fv) :: r) ρ = bindO (fk ρ) fun rk ρ1 => bindO (fv ρ1) fun rv ρ2 => prR rk (frz ρ2 rv) fun kd d ρ3 => bindO (prsM r ρ3) fun ps ρ4 => some (.ok ((kd, d) :: ps) ρ4) := eqI rfl
def dctR (ps : List (PyData × PyData)) (ρ : Rho) : Option (Oe R) := if apartK ps = true ∧ ps.length ≤ 15 then some (.ok (.own (.dict ps)) ρ) else none
def dctM (l : List (EM × EM)) : EM := fun ρ => bindO (prsM l ρ) dctR
@[simp] theorem dctM_e (l : List (EM × EM)) (ρ : Rho) : dctM l ρ = bindO (prsM l ρ) dctR := eqI rfl
theorem putK_new {κ : Type} [DecidableEq κ] : ∀ (kvs : List (κ × V)) (k : κ) (v : V), (∀ p ∈ kvs, p.1 ≠ k) → putK kvs k v = kvs ++ [(k, v)] := fun kvs k v h => by
  unfold putK
  rw [if_neg]
  intro z
  rw [List.any_eq_true] at z
  obtain ⟨p, hp, q⟩ := z
  exact h p hp (by simpa using q)
theorem mergeK_new : ∀ (more kvs : List (Key × V)), more.Pairwise (fun p q => p.1 ≠ q.1) → (∀ p ∈ kvs, ∀ q ∈ more, p.1 ≠ q.1) → mergeK kvs more = kvs ++ more
  | [], kvs, _, _ => by simp [mergeK]
  | p :: r, kvs, h, h2 => by
    rw [List.pairwise_cons] at h
    show mergeK (putK kvs p.1 p.2) r = _
    rw [putK_new kvs p.1 p.2 fun q hq => h2 q hq p (List.mem_cons_self ..), mergeK_new r _ h.2, List.append_assoc]
    · rfl
    · intro q hq z hz
      rcases List.mem_append.mp hq with hq | hq
      · exact h2 q hq z (List.mem_cons_of_mem _ hz)
      · rw [List.mem_singleton] at hq
        subst hq
        exact h.1 z hz
/-- the pairs in the run -/
inductive Prs (T : Tb) (H : Hp) (F : Reg) : List (Key × V) → List (PyData × PyData) → Prop where
  | nil : Prs T H F [] []
  | cons {k : Key} {v : V} {d : PyData} {vs : List (Key × V)} {ds : List (PyData × PyData)} : DF T.K H F v d → Prs T H F vs ds → Prs T H F ((k, v) :: vs) ((kD k, d) :: ds)
section
variable {X : Cx} {T : Tb} {W : WX} {n : Nat}
/-- pieces and readings of the pairs -/
inductive Rdg (X : Cx) (T : Tb) (W : WX) (pos : Pos) : List (Option Expr) → List Expr → List (EM × EM) → List (TE × TE) → Prop where
  | nil : Rdg X T W pos [] [] [] []
  | cons {k v : Expr} {ks : List (Option Expr)} {vs : List Expr} {fk fv : EM} {l : List (EM × EM)} {ts : List (TE × TE)} : SE X T W k fk → SE X T W v fv → Rdg X T W pos ks vs l ts → Rdg X T W pos (some k :: ks) (v :: vs) ((fk, fv) :: l) ((Tof T W (tlE T) fk, Tof T W (tlE T) fv) :: ts)
theorem Rdg.pps {pos : Pos} : ∀ {ks : List (Option Expr)} {vs : List Expr} {l : List (EM × EM)} {ts : List (TE × TE)}, Rdg X T W pos ks vs l ts → PPs X pos ks vs ts
  | _, _, _, _, .nil => pps_nil
  | _, _, _, _, .cons a b c => pps_cons a b c.pps
theorem Rdg.all {pos : Pos} : ∀ {ks : List (Option Expr)} {vs : List Expr} {l : List (EM × EM)} {ts : List (TE × TE)}, Rdg X T W pos ks vs l ts → ks.all (·.isSome) = true ∧ ks.length = vs.length ∧ ks.length = l.length
  | _, _, _, _, .nil => ⟨rfl, rfl, rfl⟩
  | _, _, _, _, .cons a b c => by obtain ⟨h1, h2, h3⟩ := c.all; simp [h1, h2, h3]; omega
theorem DFk.of {H : Hp} {F : Reg} : ∀ {kvs : List (Key × V)} {ds : List (PyData × PyData)}, Prs T H F kvs ds → DFk T.K H F kvs ds
  | _, _, .nil => .nil
  | _, _, .cons a b => .cons a (DFk.of b)
theorem Prs.mono {H H' : Hp} {F F' : Reg} (k : Kept F H H') (g : ∀ b, F b → F' b) : ∀ {kvs : List (Key × V)} {ds : List (PyData × PyData)}, Prs T H F kvs ds → Prs T H' F' kvs ds
  | _, _, .nil => .nil
  | _, _, .cons a b => .cons (a.mono k g) (Prs.mono k g b)
theorem Prs.apart {H : Hp} {F : Reg} : ∀ {kvs : List (Key × V)} {ds : List (PyData × PyData)}, Prs T H F kvs ds → apartK ds = true → kvs.Pairwise (fun p q => p.1 ≠ q.1)
  | _, _, .nil, _ => .nil
  | _, _, .cons (k := k) (v := v) a b, h => by
    unfold apartK at h
    simp only [Bool.and_eq_true] at h
    refine List.pairwise_cons.mpr ⟨fun q hq => ?_, Prs.apart b h.2⟩
    have key : ∀ {kvs : List (Key × V)} {ds : List (PyData × PyData)}, Prs T H F kvs ds → (ds.all fun p => !keq (kD k) p.1) = true → ∀ q ∈ kvs, k ≠ q.1 := by
      intro kvs ds h
      induction h with
      | nil => intro _ q hq; cases hq
      | cons a b ih =>
        intro hd q hq
        rw [List.all_cons, Bool.and_eq_true] at hd
        rcases List.mem_cons.mp hq with rfl | hq
        · have h1 := hd.1
          rw [keq_kD] at h1
          simpa using h1
        · exact ih hd.2 q hq
    exact key b h.1.2 q hq
theorem Prs.len {H : Hp} {F : Reg} : ∀ {kvs : List (Key × V)} {ds : List (PyData × PyData)}, Prs T H F kvs ds → kvs.length = ds.length
  | _, _, .nil => rfl
  | _, _, .cons _ b => by rw [List.length_cons, List.length_cons, Prs.len b]
theorem bindO_assoc {α β γ : Type} (o : Option (Oe α)) (f : α → Rho → Option (Oe β)) (g : β → Rho → Option (Oe γ)) : bindO (bindO o f) g = bindO o fun a ρ => bindO (f a ρ) g := by
  cases o with
  | none => rfl
  | some o => cases o <;> rfl
/-- an object that is nobody's stays -/
theorem Ext.nob {H H1 : Hp} {F F1 : Reg} {O O1 : Ows} {D : Addr} {o : HO} (x : Ext false H F O H1 F1 O1) (h : H D = some o) (nf : ¬ F D) (no : ∀ i, D ∉ O i) (nt : NT o := by trivial) : H1 D = some o ∧ ¬ F1 D ∧ ∀ i, D ∉ O1 i := by
  refine ⟨x.keep D o h no nt, fun z => ?_, fun i z => (x.ow z).elim (fun ⟨j, y⟩ => no j y) fun y => by rw [h] at y; cases y⟩
  rcases x.new D z with z | ⟨j, z⟩ | z
  · exact nf z
  · exact no j z
  · rw [h] at z; cases z
/-- the pairs, made with an object at D that is nobody's -/
theorem prs_of {pos : Pos} {D : Addr} : ∀ {ks : List (Option Expr)} {vs : List Expr} {l : List (EM × EM)} {ts : List (TE × TE)}, Rdg X T W pos ks vs l ts → ∀ {σ : L2.St} {B H : Hp} {FB F : Reg} {OB O : Ows} {ρ : Rho} {Q : VK} {g : List (PyData × PyData) → Rho → Option (Oe R)} {Q' : List (V × V) → Hp → Prop},
    Ext false B FB OB H F O → EnvR T H F O σ ρ → H D = some (.dK []) → ¬ F D → (∀ i, D ∉ O i) → Post T W (tlE T) σ B FB OB Q (bindO (prsM l ρ) g) →
    (∀ kvs ds H1 ρ1 F1 O1, Ext false B FB OB H1 F1 O1 → EnvR T H1 F1 O1 σ ρ1 → H1 D = some (.dK []) → ¬ F1 D → (∀ i, D ∉ O1 i) → Kept F H H1 → (∀ b, F b → F1 b) → Prs T H1 F1 kvs ds → Post T W (tlE T) σ B FB OB Q (g ds ρ1) → Q' (kvs.map fun kv => (kV kv.1, kv.2)) H1) → tPairs ts σ H Q'
  | _, _, _, _, .nil, σ, B, H, FB, F, OB, O, ρ, Q, g, Q', x, E, hD, nf, no, P, k => k [] [] H ρ F O x E hD nf no .refl (fun _ h => h) .nil P
  | _, _, _, _, .cons a b c, σ, B, H, FB, F, OB, O, ρ, Q, g, Q', x, E, hD, nf, no, P, k => by
    rw [prsM_c, bindO_assoc] at P
    refine stp x E P fun v H1 rk ρ1 F1 O1 x1 y1 E1 r1 P1 => ?_
    obtain ⟨hD1, nf1, no1⟩ := x1.nob hD nf no
    rw [bindO_assoc] at P1
    refine stp y1 E1 P1 fun u H2 rv ρ2 F2 O2 x2 y2 E2 r2 P2 => ?_
    obtain ⟨hD2, nf2, no2⟩ := x2.nob hD1 nf1 no1
    unfold prR at P2
    split at P2
    · rename_i kd d ρ3 q
      split at P2
      · rename_i hk
        obtain ⟨k0, rfl⟩ := isKey_ex hk
        obtain ⟨F3, O3, y3, E3, d3, g3, s3, n3⟩ := fz y2 y1.live E2 r2 q
        have nf3 : ¬ F3 D := fun z => by
          rcases n3 D z with z | ⟨j, z⟩ | z
          · exact nf2 z
          · exact no2 j z
          · rw [hD1] at z; cases z
        have kp : Kept F H H2 := (E.kept x1).trans x1.grow (E1.kept x2)
        rw [bindO_assoc] at P2
        refine prs_of c y3 E3 hD2 nf3 (fun i z => no2 i (s3 i D z)) P2 fun kvs ds H4 ρ4 F4 O4 x4 E4 hD4 nf4 no4 kp4 g4 pr4 P4 => ?_
        have ek : v = kV k0 := kD_vw (.inl r1)
        have := k ((k0, u) :: kvs) ((kD k0, d) :: ds) H4 ρ4 F4 O4 x4 E4 hD4 nf4 no4 (kp.trans (fun b h => g3 b (x2.grow b (x1.grow b h))) kp4) (fun b h => g4 b (g3 b (x2.grow b (x1.grow b h)))) (.cons (d3.mono kp4 g4) pr4) P4
        rw [ek]
        exact this
      · exact P2.elim
    · exact P2.elim
theorem se_dct {pos : Pos} {ks : List (Option Expr)} {vs : List Expr} {l : List (EM × EM)} {ts : List (TE × TE)} (r : Rdg X T W pos ks vs l ts) (h0 : ks ≠ []) (h15 : ks.length ≤ 15) : SE X T W (.Dict ks vs pos) (dctM l) := by
  obtain ⟨a1, a2, a3⟩ := r.all
  refine pe_imp (pe_disp r.pps a1 a2 h0 h15) fun σ H Q ⟨ρ, F, O, E, P⟩ => ?_
  intro D hD
  refine prs_of (D := D) r (B := H) (FB := F) (OB := O) (.laid hD) (E.laid hD) upd_same (fun q => E.lv D q hD) (E.ne_new hD) P fun kvs ds H1 ρ1 F1 O1 x1 E1 hD1 nf1 no1 kp1 g1 pr1 P1 => ?_
  unfold dctR at P1
  split at P1
  · rename_i hz
    refine ⟨hD1, kvs, rfl, by rw [pr1.len]; exact hz.2, ?_⟩
    obtain ⟨E2, k2⟩ := E1.other (o' := .dK kvs) hD1 (fun z => z) nf1 no1
    rw [mergeK_new kvs [] (pr1.apart hz.1) (by simp), List.nil_append]
    refine P1 (.ref D) _ F1 O1 ⟨fun b o h n z => ?_, fun b h => ?_, x1.grow, x1.new, x1.own⟩ E2 ⟨D, rfl, hD, nf1, no1, .inl ⟨kvs, upd_same, (DFk.of pr1).mono k2 fun _ h => h⟩⟩
    · rw [upd_ne (ne_of_none h hD)]
      exact x1.keep b o h n z
    · by_cases e : b = D
      · subst e; exact hD
      · rw [upd_ne e] at h
        exact x1.live b h
  · exact P1.elim
end
end DL
namespace DL
open PySem PyProof.Rows
open L2 hiding Sp
def minL : List Int → Int
  | [] => 0
  | [x] => x
  | x :: r => if x ≤ minL r then x else minL r
def insI (x : Int) : List Int → List Int
  | [] => [x]
  | y :: r => if x ≤ y then x :: y :: r else y :: insI x r
def sortI : List Int → List Int
  | [] => []
  | x :: r => insI x (sortI r)
def sortD : PyData → Option R
  | .list ds => (intsOf ds).map fun ns => .own (.list ((sortI ns).map PyData.int))
  | _ => none
@[simp] theorem sortD_l (ns : List Int) : sortD (.list (ns.map PyData.int)) = some (.own (.list ((sortI ns).map PyData.int))) := by
  show (intsOf _).map _ = _
  rw [intsOf_map]
  rfl
section
variable {X : Cx} {T : Tb} {W : WX} {n : Nat} {N : List Str} {sc : Scope} {e d : Expr} {f : AM} {pos p : Pos}
def dict0M : EM := fun ρ => some (.ok (.own (.dict [])) ρ)
@[simp] theorem dict0M_e (ρ : Rho) : dict0M ρ = some (.ok (.own (.dict [])) ρ) := eqI rfl
theorem e_dict0 (c : Cxt X T W n) : SE X T W (.Dict [] [] pos) dict0M :=
  pe_imp pe_dnewK fun σ H Q ⟨ρ, F, O, E, P⟩ => fun p hp => P (.ref p) _ F O (.laid hp) (E.laid hp) ⟨p, rfl, hp, fun q => E.lv p q hp, E.ne_new hp, .inl ⟨[], upd_same, .nil⟩⟩
end
end DL
namespace DL
open PySem PyProof.Rows
open L2 hiding Sp
open AutoSeq1 (wpAny_loadPart')
theorem tm_one (l : Addr) (items : Array Value) (n : Nat) (dd : Option Addr) (sl : Array (Option Value)) (u : Tok) :
    Meets (Builtin.«tuple.__mul__» ⟨[.ref l, .int 1 u], []⟩) (fun _ R s => s.heap.get? l = some { cls := .type "tuple", dict := dd, data := .seq items n, slots := sl } ∧ R (.ok (.ret (Value.ref l))) s) :=
  .of_wp fun P w A R s h => by
    obtain ⟨hp, g, d, tk, os⟩ := s
    obtain ⟨hl, h⟩ := h
    have f1 := AutoSeq1.idx_int
    have c0 : (decide ((1 : Int) < -(2 ^ 63)) || decide ((1 : Int) ≥ 2 ^ 63)) = false := by decide
    have c1 : (items.isEmpty || (1 : Int) == 1) = true := by simp
    wp_walk using wpAny_loadPart' hl
    repeat (first
      | (refine wpAny_ite_false (decide_eq_false (by rw [c0]; exact Bool.false_ne_true)) ?_; wp_walk using wpAny_loadPart' hl)
      | (refine wpAny_ite_true (decide_eq_true c1) ?_; wp_walk using wpAny_loadPart' hl))
    exact ⟨_, rfl, h⟩
theorem tm_none (l : Addr) (items : Array Value) (n : Nat) (dd : Option Addr) (sl : Array (Option Value)) (x : Int) (u : Tok) (c0 : (decide (x < -(2 ^ 63)) || decide (x ≥ 2 ^ 63)) = false) (c1 : (items.isEmpty || x == 1) = false) (c2 : (decide (x ≤ 0) || items.isEmpty) = true) :
    Meets (Builtin.«tuple.__mul__» ⟨[.ref l, .int x u], []⟩) (fun _ R s => s.heap.get? l = some { cls := .type "tuple", dict := dd, data := .seq items n, slots := sl } ∧ R (.ok (.ret (Value.ref s.heap.objs.size))) { s with heap := s.heap.push { cls := Value.type "tuple", data := Data.seq #[] }, toks := s.toks }) :=
  .of_wp fun P w A R s h => by
    obtain ⟨hp, g, d, tk, os⟩ := s
    obtain ⟨hl, h⟩ := h
    have f1 := AutoSeq1.idx_int
    wp_walk using wpAny_loadPart' hl
    repeat (first
      | (refine wpAny_ite_false (decide_eq_false (by rw [c0]; exact Bool.false_ne_true)) ?_; wp_walk using wpAny_loadPart' hl)
      | (refine wpAny_ite_false (decide_eq_false (by rw [c1]; exact Bool.false_ne_true)) ?_; wp_walk using wpAny_loadPart' hl)
      | (refine wpAny_ite_true (decide_eq_true c2) ?_; wp_walk using wpAny_loadPart' hl))
    exact ⟨_, rfl, h⟩
/-- a tuple times 1 is itself, times 0 or less a new one without items -/
def rRep1 (K : PySem.W.Frag) : R2 := fun x y H Q => ∃ l k xs, x = .ref l ∧ y = .int k ∧ SqT K H l xs ∧ ((k = 1 ∧ Q (.ref l) H) ∨ (xs ≠ [] ∧ -1000 ≤ k ∧ k ≤ 0 ∧ ∀ p, H p = none → Q (.ref p) (upd H p (.tup []))))
theorem op_rep1 {X : Cx} : OpR X (binaryOp .Mult) (rRep1 X.K) := by
  intro pins s σ H x y v u Q I rx ry h
  obtain ⟨l, k, xs, rfl, rfl, hT, h⟩ := h
  cases rx
  obtain ⟨t, rfl⟩ := ry
  obtain ⟨its, r, ⟨⟨cls, dd, data, sl⟩, ho, hc, n, hd⟩, hs⟩ := I.tuple hT
  cases hc
  cases hd
  have road : ∀ {Q' : Value → Shared → Prop}, wpAny (model X.prog X.w) X.A (call (.builtin "tuple.__mul__") [.ref l, .int k t]) Q' X.xe s → wpAny (model X.prog X.w) X.A (binaryOp .Mult (.ref l) (.int k t)) Q' X.xe s := fun z =>
    wpAny_binaryOp_repeat_ref (T := "tuple") (U := "int") (by decide) ⟨_, ho, rfl⟩ (fun s' => typeIs_int s' k t) noFill_tuple_mul F.fills_int_mul F.slot_int_rmul repeat_tuple F.slot_int_index.lookup
      (call_meets F.slot_int_rmul (typeIs_int s k t) F.entry_int_rmul (F.args_int_rmul_2 _ _) (int_rmul_tuple k t l its.toArray n dd sl) ⟨ho, rfl, ⟨_, ho, rfl⟩, z⟩)
  rcases h with ⟨rfl, q⟩ | ⟨hne, h0, h1, q⟩
  · exact road (call_meets F.slot_tuple_mul ⟨_, ho, rfl⟩ F.entry_tuple_mul (F.args_tuple_mul_2 _ _) (tm_one l its.toArray n dd sl t) ⟨ho, .ref l, H, I, rfl, q⟩)
  · have hi : its.toArray.isEmpty = false := by
      cases its with
      | nil => cases r; exact absurd rfl hne
      | cons a b => rfl
    have c0 : (decide (k < -(2 ^ 63)) || decide (k ≥ 2 ^ 63)) = false := by
      rw [decide_eq_false (by omega), decide_eq_false (by omega)] <;> rfl
    have c1 : (its.toArray.isEmpty || k == 1) = false := by
      rw [hi, Bool.false_or]
      exact beq_eq_false_iff_ne.mpr (by omega)
    have c2 : (decide (k ≤ 0) || its.toArray.isEmpty) = true := by rw [decide_eq_true h1]; rfl
    refine road (call_meets F.slot_tuple_mul ⟨_, ho, rfl⟩ F.entry_tuple_mul (F.args_tuple_mul_2 _ _) (tm_none l its.toArray n dd sl k t c0 c1 c2) ⟨ho, ?_⟩)
    exact ⟨.ref s.heap.objs.size, _, I.laid (t' := s.toks) (o := .tup []) (fun b ob q => Heap.get?_push_of_some _ q) (Nat.le_refl _) ⟨Nat.zero_le _, [], .nil, IsTup.new _ _⟩, rfl, q _ (I.hok.fresh (Nat.le_refl _))⟩
def dMulA : PyData → PyData → Option R
  | .tuple xs, .int k => if k = 1 then some (.dat (.tuple xs)) else if xs ≠ [] ∧ -1000 ≤ k ∧ k ≤ 0 then some (.dat (.tuple [])) else dMul (.tuple xs) (.int k)
  | d, e => dMul d e
theorem does_mulA {T : Tb} : Does2 T (fun x y H Q => rRep1 T.K x y H Q ∨ rMulX T.K x y H Q) dMulA := by
  intro x y d e z H F Q lv hx hy hg hq
  unfold dMulA at hg
  split at hg
  · rename_i xs k
    split at hg
    · rename_i hk
      cases hg
      subst hk
      obtain ⟨a, vs, rfl, h1, s1⟩ := hx.tup
      exact .inl ⟨a, 1, vs, rfl, hy.int, h1, .inl ⟨rfl, hq _ H F .refl (.tup h1 s1)⟩⟩
    · split at hg
      · rename_i hk
        cases hg
        obtain ⟨a, vs, rfl, h1, s1⟩ := hx.tup
        refine .inl ⟨a, k, vs, rfl, hy.int, h1, .inr ⟨fun e => ?_, hk.2.1, hk.2.2, fun p hp => hq _ _ F (.laid hp) (resN_tup hp .nil)⟩⟩
        subst e
        cases s1
        exact hk.1 rfl
      · exact .inr (does_mul x y _ _ z H F Q lv hx hy hg hq)
  · exact .inr (does_mul x y d e z H F Q lv hx hy hg hq)
section
variable {X : Cx} {T : Tb} {W : WX} {n : Nat} {a b : Expr} {fa fb : EM} {pos : Pos}
theorem e_mulA (c : Cxt X T W n) (ha : SE X T W a fa) (hb : SE X T W b fb) : SE X T W (.BinOp a .Mult b pos) (op2M dMulA fa fb) := se_op ((c.hK ▸ op_rep1 (X := X)).or (c.hK ▸ op_mulX)) does_mulA ha hb
end
end DL
namespace DL
open PySem PyProof.Rows
open L2 hiding Sp
/-- arguments, with the defaults behind them -/
def appA (fa : AM) (dds : List PyData) : AM := fun ρ => bindO (fa ρ) fun rs ρ1 => some (.ok (rs ++ dds.map R.dat) ρ1)
@[simp] theorem appA_e (fa : AM) (dds : List PyData) (ρ : Rho) : appA fa dds ρ = bindO (fa ρ) fun rs ρ1 => some (.ok (rs ++ dds.map R.dat) ρ1) := eqI rfl
end DL
namespace DL
open PySem PySem.Spec PyProof.Rows
open L2 hiding Sp
def boolOf : PyData → Option Bool
  | .bool b => some b
  | _ => none
def dIsB (d e : PyData) : Option R := match e with
  | .bool b => some (.dat (.bool (boolOf d == some b)))
  | _ => dIsN d e
def dNotB (d e : PyData) : Option R := match e with
  | .bool b => some (.dat (.bool (!(boolOf d == some b))))
  | _ => dNotN d e
@[simp] theorem dIsB_b (b c : Bool) : dIsB (.bool b) (.bool c) = some (.dat (.bool (b == c))) := by
  show some (R.dat (.bool (some b == some c))) = _
  rw [show (some b == some c) = (b == c) from rfl]
@[simp] theorem dNotB_b (b c : Bool) : dNotB (.bool b) (.bool c) = some (.dat (.bool (!(b == c)))) := by
  show some (R.dat (.bool (!(some b == some c)))) = _
  rw [show (some b == some c) = (b == c) from rfl]
def revD : PyData → Option R
  | .list ds => some (.own (.list ds.reverse))
  | .tuple ds => some (.dat (.tuple ds.reverse))
  | _ => none
@[simp] theorem revD_l (ds : List PyData) : revD (.list ds) = some (.own (.list ds.reverse)) := eqI rfl
@[simp] theorem revD_t (ds : List PyData) : revD (.tuple ds) = some (.dat (.tuple ds.reverse)) := eqI rfl
def pairOf : PyData → Option (Int × Int)
  | .tuple [.int a, .int b] => some (a, b)
  | _ => none
def pairsOf : List PyData → Option (List (Int × Int))
  | [] => some []
  | d :: r => match pairOf d, pairsOf r with
    | some p, some q => some (p :: q)
    | _, _ => none
def prD (p : Int × Int) : PyData := .tuple [.int p.1, .int p.2]
/-- ahead of, or the same -/
def leP (p q : Int × Int) : Bool := decide (p.1 * 4096 + p.2 ≤ q.1 * 4096 + q.2)
def insP (x : Int × Int) : List (Int × Int) → List (Int × Int)
  | [] => [x]
  | y :: r => if leP x y = true then x :: y :: r else y :: insP x r
def sortP : List (Int × Int) → List (Int × Int)
  | [] => []
  | x :: r => insP x (sortP r)
def bdP (p : Int × Int) : Bool := decide (0 ≤ p.1 ∧ p.1 < 4096 ∧ 0 ≤ p.2 ∧ p.2 < 4096)
def sortAD : PyData → Option R
  | .list ds => match intsOf ds with
    | some ns => some (.own (.list ((sortI ns).map PyData.int)))
    | none => match pairsOf ds with
      | some ps => if ps.length < 64 ∧ ps.all bdP = true then some (.own (.list ((sortP ps).map prD))) else none
      | none => none
  | _ => none
@[simp] theorem sortAD_l (ns : List Int) : sortAD (.list (ns.map PyData.int)) = some (.own (.list ((sortI ns).map PyData.int))) := by
  unfold sortAD
  simp only [intsOf_map]
end DL
namespace DL
open PySem PySem.Spec PyProof.Rows
open L2 hiding Sp
end DL
namespace DL
open PySem PySem.Spec PyProof.Rows
open L2 hiding Sp
def ch3M (g g' g'' : PyData → PyData → Option R) (fa fb fc fd : EM) : EM := fun ρ => bindO (fa ρ) fun r ρ1 => bindO (fb ρ1) fun s ρ2 => chR2 g (val ρ2 r) (val ρ2 s) (fun ρ => bindO (fc ρ) fun t ρ3 => chR2 g' (val ρ3 s) (val ρ3 t) (fun ρ => bindO (fd ρ) fun u ρ4 => op2R g'' ρ4 (val ρ4 t) (val ρ4 u)) ρ3) ρ2
@[simp] theorem ch3M_e (g g' g'' : PyData → PyData → Option R) (fa fb fc fd : EM) (ρ : Rho) : ch3M g g' g'' fa fb fc fd ρ = bindO (fa ρ) fun r ρ1 => bindO (fb ρ1) fun s ρ2 => chR2 g (val ρ2 r) (val ρ2 s) (fun ρ => bindO (fc ρ) fun t ρ3 => chR2 g' (val ρ3 s) (val ρ3 t) (fun ρ => bindO (fd ρ) fun u ρ4 => op2R g'' ρ4 (val ρ4 t) (val ρ4 u)) ρ3) ρ2 := eqI rfl
end DL
namespace DL
open PySem PySem.Spec PyProof.Rows
open L2 hiding Sp
def dEqE : PyData → PyData → Option R
  | .list ds, .list [] => some (.dat (.bool ds.isEmpty))
  | .tuple ds, .tuple [] => some (.dat (.bool ds.isEmpty))
  | d, e => dEq d e
@[simp] theorem dEqE_l (ds : List PyData) : dEqE (.list ds) (.list []) = some (.dat (.bool ds.isEmpty)) := eqI rfl
@[simp] theorem dEqE_t (ds : List PyData) : dEqE (.tuple ds) (.tuple []) = some (.dat (.bool ds.isEmpty)) := eqI rfl
end DL
namespace DL
open PySem PySem.Spec PyProof.Rows
open L2 hiding Sp
def lrR (r : R) (ρ : Rho) : Option (Oe R) := match r with
  | .dat (.int n) => if 0 ≤ n ∧ n ≤ 1000 then some (.ok (.own (.list (rngL 0 n.toNat))) ρ) else none
  | _ => none
def lrM (f : EM) : EM := fun ρ => bindO (f ρ) lrR
@[simp] theorem lrM_e (f : EM) (ρ : Rho) : lrM f ρ = bindO (f ρ) lrR := eqI rfl
end DL
namespace DL
open PySem PyProof.Rows
open L2 hiding Sp
/-- the same text, while an exception is held -/
def Tb.at (T : Tb) (a : Addr) (c : Nat) (d : Option Addr) : Tb := { T with hot := some (a, c, d) }
/-- nothing is held any more -/
def coolR : Option R → Option R
  | some (.ex _ _) => none
  | x => x
def cool (i : Nat) (ρ : Rho) : Rho := (ρ.set i none).map coolR
def isEx : R → Bool
  | .ex _ _ => true
  | _ => false
@[simp] theorem coolR_d (d : PyData) : coolR (some (.dat d)) = some (.dat d) := eqI rfl
@[simp] theorem coolR_o (d : PyData) : coolR (some (.own d)) = some (.own d) := eqI rfl
@[simp] theorem coolR_x (c : Nat) (fs : List PyData) : coolR (some (.ex c fs)) = none := eqI rfl
@[simp] theorem coolR_ob (d : OD) : coolR (some (.obj d)) = some (.obj d) := eqI rfl
@[simp] theorem coolR_n : coolR none = none := eqI rfl
@[simp] theorem coolR_f (k : Nat) : coolR (some (.fn k)) = some (.fn k) := eqI rfl
@[simp] theorem coolR_t (xs : List Int) : coolR (some (.st xs)) = some (.st xs) := eqI rfl
/-- what a suite's end is behind it -/
def coolS (i : Nat) : Option Ot → Option Ot
  | some (.nx ρ) => some (.nx (cool i ρ))
  | some (.bk ρ) => some (.bk (cool i ρ))
  | some (.ct ρ) => some (.ct (cool i ρ))
  | some (.rt r ρ) => if isEx r = true then none else some (.rt r (cool i ρ))
  | _ => none
/-- try: fb, except X as slot i: fh; mt: which classes X takes -/
def tryR (mt : Nat → Option Bool) (i : Nat) (fh : SM) : Option Ot → Option Ot
  | some (.er c fs ρ1) => match mt c with
    | some true => coolS i (fh (ρ1.set i (some (.ex c fs))))
    | some false => some (.er c fs ρ1)
    | none => none
  | o => o
def tryM (mt : Nat → Option Bool) (i : Nat) (fb fh : SM) : SM := fun ρ => tryR mt i fh (fb ρ)
@[simp] theorem tryM_e (mt : Nat → Option Bool) (i : Nat) (fb fh : SM) (ρ : Rho) : tryM mt i fb fh ρ = tryR mt i fh (fb ρ) := eqI rfl
@[simp] theorem tryR_nx (mt : Nat → Option Bool) (i : Nat) (fh : SM) (ρ : Rho) : tryR mt i fh (some (.nx ρ)) = some (.nx ρ) := eqI rfl
@[simp] theorem tryR_rt (mt : Nat → Option Bool) (i : Nat) (fh : SM) (r : R) (ρ : Rho) : tryR mt i fh (some (.rt r ρ)) = some (.rt r ρ) := eqI rfl
@[simp] theorem coolS_nx (i : Nat) (ρ : Rho) : coolS i (some (.nx ρ)) = some (.nx (cool i ρ)) := eqI rfl
theorem coolS_rt {i : Nat} {r : R} (h : isEx r = false) (ρ : Rho) : coolS i (some (.rt r ρ)) = some (.rt r (cool i ρ)) := by
  show (if isEx r = true then _ else _) = _
  rw [h, if_neg Bool.false_ne_true]
@[simp] theorem coolS_rd (i : Nat) (d : PyData) (ρ : Rho) : coolS i (some (.rt (.dat d) ρ)) = some (.rt (.dat d) (cool i ρ)) := coolS_rt rfl ρ
/-- the facts of the place where a piece runs while an exception is held -/
structure CxH (X : Cx) (T : Tb) (n : Nat) : Prop where
  hK : X.K = T.K
  hw : X.w = T.w
  gd : X.A.guards = some []
  room : L2H.RoomH n X.A
  nd : X.N.Nodup
  sm : X.base.get? sysModules ≠ none
  pin : ∃ a oe c d, T.hot = some (a, c, d) ∧ (a, oe) ∈ X.pn ∧ Zc (.ref (T.ca c)) d oe ∧ ∃ vs, oe.data = .fields vs
/-- the frame's own facts -/
structure Fr (X : Cx) (qual : Str) (cd : Value) : Prop where
  stk : X.stack = X.env :: X.outer
  frm : X.env.frame = some X.env.locals
  ql : X.env.qual = qual ++ ".<locals>."
  cd : X.env.code = cd
end DL
namespace DL
open PySem PyProof.Rows
open L2 hiding Sp
/-- a def's promise while the exception at a is held -/
structure FnP (P : Program) (w : World) (K : PySem.W.Frag) (mg : Str → Option Value) (base : Heap) (k : Nat) (f : Addr) (fd : FuncData) (ps : List Str) (sp : L2.Sp) (a : Addr) (Z : Obj → Prop) : Prop where
  len : ∀ vs H Q E, sp vs H Q E → vs.length = ps.length
  run : ∀ (A : Around) (outer : List Env) (s : Shared) (H : Hp) (args : Args) (us : List Value) (vs : List V) (Q : VK) (E : XK) (oe : Obj), A.guards = some [] → L2H.RoomH k A → L2H.PinOk outer H s (a, oe) → Z oe → (∃ us, oe.data = .fields us) → Env0 P w K mg base A outer s H → BindsTo s fd args (ps.zip us) →
    Vals vs us → sp vs H Q E → codeAny (model P w) A (.call (.ref f) args) (CR (L2.CX P w) outer P w H s Q E) s
/-- a def of the text that is called there -/
structure FnX (P : Program) (w : World) (mg : Str → Option Value) (base : Heap) (T : Tb) (x : Str) (k n : Nat) (sem : Sem) : Prop where
  ex : ∃ f fd ps, mg x = some (.ref f) ∧ PySem.W.keepIn T.K (.ref f) = true ∧ Binds T.K fd ps [] ∧ ps.length = n ∧ ∀ a c d, FnP P w T.K mg base k f fd ps (spOf (T.at a c d) n sem) a (Zc (.ref (T.ca c)) d)
theorem fn_x {T : Tb} {P : Program} {w : World} {mg : Str → Option Value} {base : Heap} {k n : Nat} {x qual : Str} {st : Stmt} {f : Addr} {fd : FuncData} {N ps : List Str} {pr : Nat → Bool} {m : SM} (G : Fun T.K x qual st f fd) (S : FnScope N ps (defScope st)) (hn : ps.length = n) (hmg : mg x = some (.ref f)) (hb : Binds T.K fd ps [])
    (hw : w = T.w) (hsm : base.get? sysModules ≠ none)
    (body : ∀ (X : Cx) (W : WX) (H : Hp) (a : Addr) (c : Nat) (d : Option Addr), X.prog = P → X.w = w → X.mg = mg → X.base = base → At X N (defScope st) → X.env.scope.kind = .function → (∀ x, X.fn x = true) → CxH X (T.at a c d) k → SB X (T.at a c d) W ⟨H, n, pr⟩ (defBody st) m) :
    FnX P w mg base T x (k + 1) n (runD n N.length pr m) := by
  have hN : n ≤ N.length := by
    have h := congrArg List.length S.pre
    rw [List.length_take] at h
    omega
  refine ⟨f, fd, ps, hmg, G.kp, hb, hn, fun a c d => ⟨fun vs H Q E ⟨_, _, _, hl, _⟩ => hl.trans hn.symm, ?_⟩⟩
  obtain ⟨oc, od, kV, doc, pm, an, cdv, ct, osl, rfl, lk, hcd⟩ := G.ex
  intro A outer s H args us vs Q E oe hg hr pin hz hf e0 hbd r hsp
  have hl : vs.length = ps.length := by obtain ⟨_, _, _, q, _⟩ := hsp; exact q.trans hn.symm
  have kin : T.K.In s.heap := e0.mod.kin.keeps fun b o e => (e0.bs b o e).1
  have nolim : s.heap.NoLimit := e0.mod.nolimit.keeps fun b o e => (e0.bs b o e).1
  have kinds : ∀ y ∈ ps.zip us, (defScope st).names.lookup y.1 = some .local ∨ ((defScope st).names.lookup y.1 = some .cell ∧ ((cellsFrom (s.heap.objs.size + 1) (defScope st).names []).lookup y.1).isSome = true) := by
    rintro ⟨y, v⟩ hy
    exact (S.par y (List.of_mem_zip hy).1).imp id fun q => ⟨q, PySem.W.cellsFrom_some _ _ _ (.inl q)⟩
  refine codeAny_call_function hr.depth (kin _ _ lk) rfl S.co S.gen rfl (PySem.W.codeRec_of kin hcd) (hbd _ _ _ _ ?_)
  refine wpAny_newFunctionEnv_cells S.kind kinds ?_
  rintro env rfl s1 ic
  refine ⟨nolim.keeps ic.toInCall.keep, codeAny_func ?_⟩
  let X := L2H.cxH (L2.CX P w) P w T.K mg base N qual (defScope st) f cdv A outer s H E (a, oe)
  have I : L2.Inv X [] (L2.start N vs) H s1 := L2H.inv_startH S pin e0 hl r ic
  have cx : CxH X (T.at a c d) k := ⟨rfl, hw, hg, hr.deeper _, S.nd, hsm, a, oe, c, d, rfl, List.mem_cons_self, hz, hf⟩
  have B := body X (fun cls d _ H' => E cls d H') H a c d rfl rfl rfl rfl ⟨rfl, rfl⟩ S.kind (fun _ => rfl) cx
  refine wpAny_mono (B.run [] s1 (L2.start N vs) H _ I (body_of hN hsp)) ?_ fun _ _ z => z
  intro fl s' hs
  cases fl with
  | ret u =>
    obtain ⟨v, σ', H', J, rv, q⟩ := hs
    exact ⟨v, H', J.os, J.bare, J.base, J.hok, rv, q⟩
  | next =>
    obtain ⟨σ', H', J, q⟩ := hs
    exact ⟨.non, H', J.os, J.bare, J.base, J.hok, rfl, q⟩
  | brk =>
    obtain ⟨_, _, _, q⟩ := hs
    exact q.elim
  | cont =>
    obtain ⟨_, _, _, q⟩ := hs
    exact q.elim
/-- a call from which nothing is raised -/
def noEr : Option (Oe R) → Option (Oe R)
  | some (.er _ _ _) => none
  | o => o
@[simp] theorem noEr_ok (r : R) (ρ : Rho) : noEr (some (.ok r ρ)) = some (.ok r ρ) := eqI rfl
def semX (sem : Sem) : Sem := fun args => noEr (sem args)
@[simp] theorem semX_e (sem : Sem) (args : List R) : semX sem args = noEr (sem args) := eqI rfl
theorem semX_some {sem : Sem} {args : List R} {o : Oe R} (h : semX sem args = some o) : sem args = some o ∧ ∃ r ρ, o = .ok r ρ := by
  unfold semX at h
  cases q : sem args with
  | none => rw [q] at h; cases h
  | some p =>
    rw [q] at h
    cases p with
    | ok r ρ => cases h; exact ⟨rfl, r, ρ, rfl⟩
    | er c fs ρ => cases h
section
variable {X : Cx} {T : Tb} {W : WX} {x : Str} {k n m : Nat} {sem : Sem} {e : Expr} {es : List Expr} {fa : AM} {p pos : Pos} {a : Addr} {c : Nat} {d : Option Addr} {N : List Str} {sc : Scope}
theorem sp_noE {vs : List V} {H : Hp} {Q : VK} {E : XK} (h : spOf T n (semX sem) vs H Q E) : spOf T n sem vs H Q fun _ _ _ => False := by
  obtain ⟨args, F, O, hl, En, P⟩ := h
  refine ⟨args, F, O, hl, En, ?_⟩
  cases q : semX sem args with
  | none => rw [q] at P; exact P.elim
  | some o =>
    rw [q] at P
    obtain ⟨h1, r, ρ, rfl⟩ := semX_some q
    rw [h1]
    exact P
/-- f(e, ..) while the exception is held -/
theorem se_fX (l : At X N sc) (hx : gnB sc x = true) (cx : CxH X (T.at a c d) m) (h : FnX X.prog X.w X.mg X.base T x k n sem) (hl : ∀ args o, sem args = some o → args.length = n) (hk : k ≤ m) (ha : SA X (T.at a c d) W (e :: es) fa)
    (he : starEach (e :: es) X.env = (false, eval e X.env) :: starEach es X.env := by rfl) (hpl : (backTo pos (starEach es X.env)).any (·.1) = false := by rfl) : SE X (T.at a c d) W (.Call (.Name x p) (e :: es) [] pos) (callM (semX sem) fa) := by
  obtain ⟨f, fd, ps, hm, hkp, hb, hn, G0⟩ := h.ex
  have G := G0 a c d
  have hK : X.K = T.K := cx.hK
  rw [← hK] at hkp hb G
  obtain ⟨a', oe, c', d', ht, hmem, hz, hf⟩ := cx.pin
  cases ht
  refine ⟨fun pins s σ H Q I h => ?_⟩
  have h2 := call_of (n := n) h fun vs rs H0 H1 F1 O1 rr args ρ pa o so => by rw [resRs_len rr, ← passA_len pa]; exact hl args o (semX_some so).1
  have fin : ∀ us s1, AP X pins σ (fun vs H1 => spOf (T.at a c d) n (semX sem) vs H1 Q fun cls d H' => W cls d σ H') us s1 → X.K.In s1.heap ∧ wpAny (model X.prog X.w) X.A (call (.ref f) us) (EP X pins σ Q) X.xe s1 := by
    rintro us s1 ⟨vs, H1, I1, r, q⟩
    have q := sp_noE q
    refine ⟨I1.kIn, ?_⟩
    have lus : us.length = ps.length := by rw [← r.length]; exact G.len _ _ _ _ q
    have bb := hb s1 us I1.kIn (by rw [List.append_nil]; exact lus)
    rw [List.append_nil] at bb
    have P1 := I1.pin (a, oe) (List.mem_append_left _ hmem)
    have pin : L2H.PinOk X.stack H1 s1 (a, oe) := ⟨P1.1, P1.2.1, fun hm => (List.mem_cons.mp (I1.stkSub a hm)).elim P1.2.2.1 P1.2.2.2.1, P1.2.2.2.2⟩
    refine wpAny_call (codeAny_mono (G.run X.A X.stack s1 H1 ⟨us, []⟩ us vs Q _ oe cx.gd (cx.room.mono hk) pin hz hf I1.env0 bb r q) ?_)
    intro r' s' hq
    cases r' with
    | error e =>
      obtain ⟨_, _, _, _, _, _, _, _, _, _, _, _, z⟩ := hq
      exact z.elim
    | ok fl =>
      cases fl with
      | ret u => exact I1.after hq
      | next => exact hq.elim
      | brk => exact hq.elim
      | cont => exact hq.elim
  exact wpAny_Call_Name_kw (ld_glob I (l.gl hx).1 hm (PySem.W.callWith_K (h₀ := X.base) I.ok.mod.kin hkp (thn (ha.run pos pins s σ H _ I h2) fin) he hpl) (l.gl hx).2.1)
def isER (tb : Nat → Option Bool) (r : R) (ρ : Rho) : Option (Oe R) := match r with
  | .ex c [] => match tb c with
    | some b => some (.ok (.dat (.bool b)) ρ)
    | none => none
  | _ => none
def isEM (tb : Nat → Option Bool) (fe : EM) : EM := fun ρ => bindO (fe ρ) fun r ρ1 => isER tb r ρ1
@[simp] theorem isEM_e (tb : Nat → Option Bool) (fe : EM) (ρ : Rho) : isEM tb fe ρ = bindO (fe ρ) fun r ρ1 => isER tb r ρ1 := eqI rfl
/-- what a class of errors must say, so that isinstance asks rightly: reckoned by the kernel -/
theorem excC_of {K : PySem.W.Frag} {D : Addr} (h : excCB K D = true) : ExcC K D := by
  unfold excCB at h
  simp only [Bool.and_eq_true, decide_eq_true_eq] at h
  obtain ⟨⟨⟨⟨⟨⟨⟨h1, h2⟩, h3⟩, h4⟩, h5⟩, h6⟩, h7⟩, h8⟩ := h
  exact ⟨h1, h2, h3, h4, h5, h6, h7, h8⟩
/-- the table's answers are the machine's -/
def IsTb (T : Tb) (cv : Value) (tb : Nat → Option Bool) : Prop := ∀ c b, tb c = some b → excCB T.K (T.ca c) = true ∧ PySem.W.kitOne T.K (.ref (T.ca c)) cv = some b
theorem exc_inst {A : Addr} {oe : Obj} {s : Shared} {D : Addr} (hget : s.heap.get? A = some oe) (hz : Zc (.ref D) none oe) (hf : ∃ vs, oe.data = .fields vs) : PySem.W.InstAt s.heap A oe D none := by
  obtain ⟨vs, hv⟩ := hf
  obtain ⟨oc, od, oda, osl⟩ := oe
  obtain ⟨h1, h2⟩ := hz
  dsimp only at h1 h2 hv
  subst h1 h2 hv
  exact ⟨hget, rfl, rfl, trivial⟩
/-- the class that a name bears -/
def ClsN (X : Cx) (x : Str) (v : V) (cv : Value) : Prop := (X.mg x = some cv ∨ (X.mg x = none ∧ bootBuiltins x = some cv)) ∧ RelV v cv ∧ ∀ u, RelV v u → u = cv
theorem pe_cls {v : V} {cv : Value} (l : At X N sc) (hx : gnB sc x = true) (h : ClsN X x v cv) : PE X (.Name x pos) (tC v) := by
  obtain ⟨h1 | ⟨h1, h2⟩, h3, _⟩ := h
  · exact pe_glob (l.gl hx).1 h1 h3 (l.gl hx).2.1
  · exact pe_bltn (l.gl hx).1 h1 h2 h3 (l.gl hx).2.2 (l.gl hx).2.1
theorem call_isE2 {A : Addr} {oe : Obj} {D : Addr} (C : ExcC X.K D) (hm : (A, oe) ∈ X.pn) (hz : Zc (.ref D) none oe) (hf : ∃ vs, oe.data = .fields vs) : CallR X (.builtin "isinstance") (rIsE X.K D A) := by
  intro pins s σ H xs us Q I r h
  obtain ⟨c, cv, b, rfl, hcv, e, q⟩ := h
  cases r with
  | cons rx rr =>
    cases rr with
    | cons rt rr =>
      cases rr
      cases rx
      have ec := hcv _ rt
      subst ec
      have P1 := I.pin (A, oe) (List.mem_append_left _ hm)
      exact PySem.W.kia_one (PySem.W.handS_kitx_exc C.hg C.hk C.hs C.hd C.ha C.hn C.ht C.hm) I.kIn (exc_inst P1.1 hz hf) e (fun z => nomatch z) fun tk => ⟨.bl b, H, I.kept (t' := tk) fun _ _ z => z, rfl, q⟩
theorem se_isE {cx : Str} {fe : EM} {tb : Nat → Option Bool} {v : V} {cv : Value} {p2 : Pos} (l : At X N sc) (ch : CxH X T m) (h1 : gnB sc "isinstance" = true) (hm : X.mg "isinstance" = none) (h2 : gnB sc cx = true) (hc : ClsN X cx v cv) (ht : IsTb T cv tb) (he : SE X T W e fe)
    (hs : starEach [e, .Name cx p2] X.env = (false, eval e X.env) :: starEach [.Name cx p2] X.env := by rfl) (hpl : (backTo pos (starEach [.Name cx p2] X.env)).any (·.1) = false := by rfl) :
    SE X T W (.Call (.Name "isinstance" p) [e, .Name cx p2] [] pos) (isEM tb fe) := by
  refine ⟨fun pins s σ H Q I h => ?_⟩
  obtain ⟨A, oe, ec, ed, ehot, emem, ez, ef⟩ := ch.pin
  obtain ⟨ρ, F, O, E, P⟩ := h
  by_cases hD : ed = none ∧ ∃ b, tb ec = some b
  · obtain ⟨rfl, b, hb⟩ := hD
    obtain ⟨t1, t2⟩ := ht ec b hb
    have C : ExcC X.K (T.ca ec) := by rw [ch.hK]; exact excC_of t1
    refine (pe_callB (pos := pos) (p := p) (call_isE2 C emem ez ef) (l.gl h1).1 hm (by decide +kernel) (pa_cons he (pa_cons (pe_cls (pos := p2) l h2 hc) pa_nil) hs) (l.gl h1).2.2 (l.gl h1).2.1 hs hpl).run pins s σ H Q I ?_
    refine stp .refl E P fun u H1 r ρ1 F1 O1 x1 y1 E1 r1 P1 => ?_
    show rIsE X.K (T.ca ec) A [u, v] H1 Q
    unfold isER at P1
    split at P1
    · rename_i c0
      obtain ⟨a0, d0, e1, e2, e3⟩ := r1
      rw [ehot] at e2
      cases e2
      rw [hb] at P1
      exact ⟨v, cv, b, by rw [e1], hc.2.2, by rw [ch.hK]; exact t2, P1 (.bl b) H1 F1 O1 y1 E1 (.bl b)⟩
    · exact P1.elim
  · refine (pe_imp (t' := fun σ H Q => Tof T W (tlE T) fe σ H fun _ _ => False) (pe_callB (pos := pos) (p := p) (id := "isinstance") (r := fun _ _ _ => False) (fun _ _ _ _ _ _ _ _ _ z => z.elim) (l.gl h1).1 hm (by decide +kernel) (pa_cons he (pa_cons (pe_cls (pos := p2) l h2 hc) pa_nil) hs) (l.gl h1).2.2 (l.gl h1).2.1 hs hpl) fun σ H Q z => ?_).run pins s σ H Q I ?_
    · obtain ⟨ρ, F, O, E, P⟩ := z
      refine ⟨ρ, F, O, E, ?_⟩
      cases q : fe ρ with
      | none => rw [q] at P; exact P
      | some o =>
        rw [q] at P
        cases o with
        | ok r ρ1 => exact fun v H' F' O' a1 a2 a3 => (P v H' F' O' a1 a2 a3).elim
        | er c fs ρ1 => exact P
    · refine stp .refl E P fun u H1 r ρ1 F1 O1 x1 y1 E1 r1 P1 => ?_
      unfold isER at P1
      split at P1
      · rename_i c0
        obtain ⟨a0, d0, e1, e2, e3⟩ := r1
        rw [ehot] at e2
        cases e2
        split at P1
        · rename_i b0 hb0
          exact hD ⟨e3.2, b0, hb0⟩
        · exact P1.elim
      · exact P1.elim
end
def flV : PyData → Option V
  | .none => some .non
  | .bool b => some (.bl b)
  | .int i => some (.int i)
  | .str x => some (.str x)
  | _ => none
def eqL (d e : PyData) : Bool := match flV d, flV e with
  | some x, some y => eqV x y
  | _, _ => false
def flats (ds : List PyData) : Bool := ds.all fun d => (flV d).isSome
def dCnt : PyData → PyData → Option R
  | .list ds, e => if (flV e).isSome && flats ds then some (.dat (.int (ds.countP fun d => eqL d e : Nat))) else none
  | _, _ => none
def dIdx : PyData → PyData → Option R
  | .list ds, e => if (flV e).isSome && flats ds then (ds.findIdx? fun d => eqL d e).map fun j => .dat (.int (j : Nat)) else none
  | _, _ => none
def isLs : Option PyData → Bool
  | some (.list _) => true
  | _ => false
def lmM (g : PyData → PyData → Option R) (fo fe : EM) : EM := fun ρ => bindO (fo ρ) fun r ρ1 => pick (isLs (val ρ1 r)) (fun ρ1 => bindO (fe ρ1) fun s ρ2 => op2R g ρ2 (val ρ2 r) (val ρ2 s)) (fun _ => none) ρ1
@[simp] theorem lmM_e (g : PyData → PyData → Option R) (fo fe : EM) (ρ : Rho) : lmM g fo fe ρ = bindO (fo ρ) fun r ρ1 => pick (isLs (val ρ1 r)) (fun ρ1 => bindO (fe ρ1) fun s ρ2 => op2R g ρ2 (val ρ2 r) (val ρ2 s)) (fun _ => none) ρ1 := eqI rfl
@[simp] theorem isLs_l (ds : List PyData) : isLs (some (.list ds)) = true := eqI rfl
theorem flV_df {K : PySem.W.Frag} {H : Hp} {F : Reg} {v x : V} {d : PyData} (h : DF K H F v d) (e : flV d = some x) : v = x := by
  cases h <;> first | (cases e; rfl) | cases e
theorem flV_vw {T : Tb} {H : Hp} {F : Reg} {v x : V} {d : PyData} (h : Vw T H F v d) (e : flV d = some x) : v = x := by
  rcases h with h | ⟨a, _, h⟩
  · exact flV_df h e
  · cases d <;> first | exact h.elim | cases e
theorem flV_flat {d : PyData} {x : V} (e : flV d = some x) : flatV x = true := by
  cases d <;> first | (cases e; rfl) | cases e
theorem flats_vs {K : PySem.W.Frag} {H : Hp} {F : Reg} : ∀ {vs : List V} {ds : List PyData}, DFs K H F vs ds → flats ds = true → vs.all flatV = true
  | _, _, .nil, _ => rfl
  | _, _, .cons a b, h => by
    unfold flats at h
    rw [List.all_cons, Bool.and_eq_true] at h
    obtain ⟨x, hx⟩ := Option.isSome_iff_exists.mp h.1
    rw [List.all_cons, flV_df a hx, flV_flat hx, flats_vs b h.2]
    rfl
theorem eqL_at {K : PySem.W.Frag} {H : Hp} {F : Reg} {v y : V} {d e : PyData} (h : DF K H F v d) (hf : (flV d).isSome = true) (he : flV e = some y) : eqL d e = eqV v y := by
  obtain ⟨x, hx⟩ := Option.isSome_iff_exists.mp hf
  unfold eqL
  rw [hx, he, flV_df h hx]
theorem count_eq {K : PySem.W.Frag} {H : Hp} {F : Reg} {y : V} {e : PyData} (he : flV e = some y) : ∀ {vs : List V} {ds : List PyData}, DFs K H F vs ds → flats ds = true → (ds.countP fun d => eqL d e) = vs.countP fun v => eqV v y
  | _, _, .nil, _ => rfl
  | _, _, .cons a b, h => by
    unfold flats at h
    rw [List.all_cons, Bool.and_eq_true] at h
    rw [List.countP_cons, List.countP_cons, count_eq he b h.2, eqL_at a h.1 he]
def rCnt (K : PySem.W.Frag) : V → List V → Hp → VK → Prop := fun x xs H Q => ∃ (a : Addr) (ys : List V) (y : V), x = .ref a ∧ xs = [y] ∧ SqL K H a ys ∧ flatV y = true ∧ ys.all flatV = true ∧ Q (.int (ys.countP fun v => eqV v y : Nat)) H
theorem countP_eqU {y : V} : ∀ {ys : List V} {us : List Value}, Vals ys us → ys.all flatV = true → us.countP (eqU y) = ys.countP fun v => eqV v y
  | _, _, .nil, _ => rfl
  | _, _, .cons r t, h => by
    rw [List.all_cons, Bool.and_eq_true] at h
    rw [List.countP_cons, List.countP_cons, countP_eqU t h.2, eqU_of r h.1]
section
variable {X : Cx} {T : Tb} {W : WX} {o e ex : Expr} {fo fe : EM}
theorem mt_cnt : MtR X "list.count" (rCnt X.K) := by
  intro pins s σ H x xs v us Q I rx rxs h
  obtain ⟨p, ys, y, rfl, rfl, hs, fy, fys, q⟩ := h
  cases rx
  obtain ⟨u, rfl, ru⟩ := rxs.one
  obtain ⟨its, rv, ⟨⟨cls, dd, data, sl⟩, n, ho, hc, hdn, hd⟩, hlen⟩ := I.list hs
  simp only at hc hd
  subst hc hd
  refine call_meets PySem.F.slot_list_count ⟨_, ho, rfl⟩ PySem.F.entry_list_count (PySem.F.args_list_count_2 _ _)
    (SeqAt.list_countAt p its.toArray n dd sl u (eqU y)) ⟨ho, fun z hz => mem_eqAt ru fy rv fys z (by simpa using hz), ?_⟩
  refine ⟨.int (ys.countP fun v => eqV v y : Nat), H, I.tok _, ⟨s.toks, ?_⟩, q⟩
  show Value.int ((its.toArray.toList.countP (eqU y) : Nat) : Int) s.toks = _
  rw [show its.toArray.toList = its from rfl, countP_eqU rv fys]
theorem lm_of {r : V → List V → Hp → VK → Prop} {g : PyData → PyData → Option R} (hg : ∀ d e z, g d e = some z → ∃ ds, d = .list ds) (dr : ∀ (a : Addr) (y : V) (vs : List V) (ds : List PyData) (d : PyData) (z : R) (H : Hp) (F : Reg) (Q : VK), SqL T.K H a vs → DFs T.K H F vs ds → Vw T H F y d → g (.list ds) d = some z → (∀ v, ResN T H H F v z → Q v H) → r (.ref a) [y] H Q)
    {σ : L2.St} {H : Hp} {Q : VK} (h : Tof T W (tlE T) (lmM g fo fe) σ H Q) : tBM T.K "list" r (Tof T W (tlE T) fo) (tCons (Tof T W (tlE T) fe) tNil) σ H Q := by
  obtain ⟨ρ, F, O, E, P⟩ := h
  refine stp .refl E P fun v H1 ra ρ1 F1 O1 x1 y1 E1 r1 P1 => ?_
  cases q1 : val ρ1 ra with
  | none => rw [q1] at P1; exact P1.elim
  | some d1 =>
    rw [q1] at P1
    cases d1 with
    | list ds =>
      obtain ⟨a, vs, rfl, hs, sd⟩ := (val_vw E1 r1 q1).lst
      refine ⟨.inl ⟨rfl, vs, hs.sq⟩, ?_⟩
      refine stp y1 E1 P1 fun u H2 rb ρ2 F2 O2 x2 y2 E2 r2 P2 => ?_
      have r1' : ResR T H H2 F2 O2 σ (.ref a) ra := ResR.mono E1 x2 r1
      cases q2 : val ρ2 ra with
      | none => rw [q2] at P2; exact P2.elim
      | some d2 =>
        cases q3 : val ρ2 rb with
        | none => rw [q2, q3] at P2; exact P2.elim
        | some d3 =>
          rw [q2, q3] at P2
          have P3 : Post T W (tlE T) σ H F O Q (retO (g d2 d3) ρ2) := P2
          cases q4 : g d2 d3 with
          | none => rw [q4] at P3; exact P3.elim
          | some z =>
            rw [q4] at P3
            obtain ⟨ds2, rfl⟩ := hg _ _ _ q4
            obtain ⟨a2, vs2, ea, hs2, sd2⟩ := (val_vw E2 r1' q2).lst
            cases ea
            exact dr a u vs2 ds2 d3 z H2 F2 Q hs2.sq sd2 (val_vw E2 r2 q3) q4 fun w n3 => fin_op y2 E2 P3 .refl n3
    | _ => exact P1.elim
theorem dCnt_ls : ∀ d e z, dCnt d e = some z → ∃ ds, d = .list ds
  | .list ds, _, _, _ => ⟨ds, rfl⟩
theorem dIdx_ls : ∀ d e z, dIdx d e = some z → ∃ ds, d = .list ds
  | .list ds, _, _, _ => ⟨ds, rfl⟩
theorem se_cnt (hK : X.K = T.K) (h : PE X ex (tBM X.K "list" (rCnt X.K) (Tof T W (tlE T) fo) (tCons (Tof T W (tlE T) fe) tNil))) : SE X T W ex (lmM dCnt fo fe) := by
  rw [hK] at h
  refine pe_imp h fun σ H Q z => lm_of dCnt_ls (fun a y vs ds d z H F Q hs sd vw hg k => ?_) z
  have hg' : (if ((flV d).isSome && flats ds) = true then some (R.dat (.int (ds.countP fun d' => eqL d' d : Nat))) else none) = some z := hg
  split at hg'
  · rename_i hc
    rw [Bool.and_eq_true] at hc
    cases hg'
    obtain ⟨x, hx⟩ := Option.isSome_iff_exists.mp hc.1
    obtain rfl := flV_vw vw hx
    refine ⟨a, vs, y, rfl, rfl, hs, flV_flat hx, flats_vs sd hc.2, k _ ?_⟩
    rw [count_eq hx sd hc.2]
    exact .int _
  · cases hg'
theorem se_idx (hK : X.K = T.K) (h : PE X ex (tBM X.K "list" (rIndex X.K) (Tof T W (tlE T) fo) (tCons (Tof T W (tlE T) fe) tNil))) : SE X T W ex (lmM dIdx fo fe) := by
  rw [hK] at h
  refine pe_imp h fun σ H Q z => lm_of dIdx_ls (fun a y vs ds d z H F Q hs sd vw hg k => ?_) z
  have hg' : (if ((flV d).isSome && flats ds) = true then (ds.findIdx? fun d' => eqL d' d).map (fun j => R.dat (.int (j : Nat))) else none) = some z := hg
  split at hg'
  · rename_i hc
    rw [Bool.and_eq_true] at hc
    obtain ⟨j, hj, rfl⟩ := Option.map_eq_some_iff.mp hg'
    obtain ⟨x, hx⟩ := Option.isSome_iff_exists.mp hc.1
    obtain rfl := flV_vw vw hx
    rw [List.findIdx?_eq_some_iff_getElem] at hj
    obtain ⟨hl, h1, h2⟩ := hj
    have fl : ∀ m (hm : m < ds.length), (flV ds[m]).isSome = true := fun m hm => List.all_eq_true.mp hc.2 _ (List.getElem_mem hm)
    obtain ⟨v, hv, dv⟩ := sd.get (show ds[j]? = some ds[j] from List.getElem?_eq_getElem hl)
    refine ⟨a, vs, y, j, v, rfl, rfl, hs, flV_flat hx, flats_vs sd hc.2, hv, ?_, fun m z' hm hz => ?_, k _ (.int _)⟩
    · rw [← eqL_at dv (fl j hl) hx]; exact h1
    · have hml : m < ds.length := by omega
      obtain ⟨v', hv', dv'⟩ := sd.get (show ds[m]? = some ds[m] from List.getElem?_eq_getElem hml)
      rw [hz] at hv'
      cases hv'
      rw [← eqL_at dv' (fl m hml) hx]
      simpa using h2 m hm
  · cases hg'
end
end DL
namespace DL
open PySem PyProof.Rows
open L2 hiding Sp
/-- all but tables stays, nothing goes -/
structure Grew (H H1 : Hp) : Prop where
  keep : ∀ b o, H b = some o → NT o → H1 b = some o
  live : ∀ b, H1 b = none → H b = none
theorem Grew.refl {H : Hp} : Grew H H := ⟨fun _ _ h _ => h, fun _ h => h⟩
theorem Grew.ext {s : Bool} {H H1 : Hp} {F : Reg} {O : Ows} (g : Grew H H1) : Ext s H F O H1 F O := ⟨fun b o h _ n => g.keep b o h n, g.live, fun _ h => h, fun _ h => .inl h, fun _ _ h => .inl h⟩
section
variable {X : Cx} {pins : List (Addr × Obj)} {σ : L2.St} {H : Hp} {s : Shared}
/-- a lambda is made: what was tracked grew -/
theorem lam_mk {L : List (Addr × Str)} {c P : Addr} {q : Str} {params : Arguments} {body : Expr} {scope : Scope} {pos : Pos} {E : Value → Shared → Prop} {Q : Value → Shared → Prop} (I : Inv X pins σ H s) (tb : LamX.TabB X.base X.mg c P) (hcd : X.env.code = .ref c) (hq : X.env.qual ++ "<lambda>" = q)
    (hm : (P, q) ∈ L) (hu : ∀ p ∈ L, p.1 = P → p.2 = q) (tabs : LamX.Tabs L H) (hd : defaultsOf params X.env = ([], [])) (hfr : ∀ y ∈ scope.names, y.2 = .free → ∃ c, X.env.cells.lookup y.1 = some c)
    (k : ∀ (f c' : Addr) (pm ctv : Value) (H1 : Hp) (s' : Shared), Inv X pins σ H1 s' → Grew H H1 → LamX.Tabs L H1 → s'.heap.get? f = some (PySem.W.kla_obj "<lambda>" q params body scope (cloFrom X.env.cells scope.names []) pm c' ctv) → H1 f = none → f ∉ frs X.stack → H1 c' = some (LamX.CodeO c' q) → Q (.ref f) s') :
    wpAny (model X.prog X.w) X.A (eval (.Lambda params body scope pos) X.env) Q E s := by
  subst hq
  have tP := tabs _ hm
  obtain ⟨us, eP, t3, codes⟩ := tP
  have bP := tb.bm.keeps I.bk
  have gP : s.heap.get? P = some { cls := .none, data := .fields us } := I.hok P _ eP
  have out : ∀ f, s.heap.objs.size ≤ f → f ∉ frs X.stack := fun f hf z => by
    cases List.mem_cons.mp (I.stkSub _ z) with
    | inl e => exact absurd I.lt (by rw [← e]; exact Nat.not_lt_of_le hf)
    | inr e => exact I.nofs hf e
  refine PySem.W.kla_eval hd ?_
  cases hit : codeAmong pos us.toList with
  | some cv =>
    obtain ⟨c1, rfl, hc1⟩ := codes pos cv hit
    refine PySem.W.kla_makeFunctionHit (closure_ok hfr) I.ok.glob (I.mod.glob.keeps I.bk) hcd (tb.code.keeps I.bk) gP t3 hit bP ?_
    intro ctv h1 tk kp sz
    exact k _ c1 _ ctv H _ (I.kept fun b o e => Heap.get?_push_of_some _ (kp b o e)) .refl tabs (Heap.get?_push_size _ rfl) (I.hok.fresh sz) (out _ sz) hc1
  | none =>
    refine PySem.W.kla_makeFunction (closure_ok hfr) I.ok.glob (I.mod.glob.keeps I.bk) hcd (tb.code.keeps I.bk) gP t3 hit tb.gP bP ?_
    intro c1 ctv h1 tk xb ge lt rec tab
    obtain ⟨_, oc, vs, t, e0, g1, g2, g3⟩ := rec
    cases e0
    have sz : s.heap.objs.size ≤ h1.objs.size := Nat.le_trans ge (Nat.le_of_lt lt)
    have n1 : H c1 = none := I.hok.fresh ge
    let fo : Obj := PySem.W.kla_obj "<lambda>" (X.env.qual ++ "<lambda>") params body scope (cloFrom X.env.cells scope.names []) ((X.mg "__name__").getD .none) c1 ctv
    have J := LamX.inv_table (q := X.env.qual ++ "<lambda>") (t' := tk) (more := #[rawInt pos.line, rawInt pos.col, .ref c1]) (h' := h1.push fo) I eP (fun b o hb e => Heap.get?_push_of_some fo (xb b o hb e)) (Heap.get?_push_of_some fo tab) ge ⟨oc, vs, t, Heap.get?_push_of_some fo g1, g2, g3⟩
    generalize hH1 : upd (upd H P (.tbl (us ++ #[rawInt pos.line, rawInt pos.col, .ref c1]))) c1 (LamX.CodeO c1 (X.env.qual ++ "<lambda>")) = H1 at J
    have PneC : P ≠ c1 := ne_of_none eP n1
    have at1 : H1 c1 = some (LamX.CodeO c1 (X.env.qual ++ "<lambda>")) := by rw [← hH1, upd_same]
    have atP : H1 P = some (.tbl (us ++ #[rawInt pos.line, rawInt pos.col, .ref c1])) := by rw [← hH1, upd_ne PneC, upd_same]
    have oth : ∀ b, b ≠ P → b ≠ c1 → H1 b = H b := fun b h2 h3 => by rw [← hH1, upd_ne h3, upd_ne h2]
    have kp : ∀ b o, H b = some o → NT o → H1 b = some o := fun b o e n => by
      rw [oth b (fun z => by rw [z, eP] at e; cases e; exact n) (ne_of_none e n1)]
      exact e
    have lv : ∀ b, H1 b = none → H b = none := fun b e => by
      by_cases h2 : b = P
      · rw [h2, atP] at e; cases e
      · by_cases h3 : b = c1
        · rw [h3]; exact n1
        · rw [← oth b h2 h3]; exact e
    have cn : ∀ c0 q0, NT (LamX.CodeO c0 q0) := fun _ _ => trivial
    have el : (us ++ #[rawInt pos.line, rawInt pos.col, Value.ref c1]).toList = us.toList ++ [rawInt pos.line, rawInt pos.col, .ref c1] := by simp
    refine k h1.objs.size c1 _ ctv H1 _ J ⟨kp, lv⟩ (fun p hp => ?_) (Heap.get?_push_size _ rfl) ?_ (out _ sz) at1
    · by_cases hb : p.1 = P
      · refine ⟨_, by rw [hb]; exact atP, by rw [el]; exact PySem.TriplesOk_snoc _ _ _ _ t3, fun pos' cv hc => ?_⟩
        rw [el] at hc
        rw [hu p hp hb]
        cases LamX.among_app _ t3 hc with
        | inl z =>
          obtain ⟨c2, e1, e2⟩ := codes pos' cv z
          exact ⟨c2, e1, kp _ _ e2 (cn _ _)⟩
        | inr z => exact ⟨c1, z, at1⟩
      · obtain ⟨us', a1, a2, a3⟩ := tabs p hp
        refine ⟨us', by rw [oth _ hb (ne_of_none a1 n1)]; exact a1, a2, fun pos' cv hc => ?_⟩
        obtain ⟨c2, e1, e2⟩ := a3 pos' cv hc
        exact ⟨c2, e1, kp _ _ e2 (cn _ _)⟩
    · have sP : P < s.heap.objs.size := Heap.lt_size gP
      rw [oth _ (Nat.ne_of_gt (Nat.lt_of_lt_of_le sP sz)) (Nat.ne_of_gt lt)]
      exact I.hok.fresh sz
end
/-- the place of a piece where a lambda is made -/
structure LamC (X : Cx) (T : Tb) (c P : Addr) (q : Str) : Prop where
  tb : LamX.TabB X.base X.mg c P
  cd : X.env.code = .ref c
  ql : X.env.qual ++ "<lambda>" = q
  mem : (P, q) ∈ T.tb
  uni : ∀ p ∈ T.tb, p.1 = P → p.2 = q
theorem LamC.blk {X : Cx} {T : Tb} {c P : Addr} {q : Str} (l : LamC X T c P q) (s : Shared) (H : Hp) (scope : Scope) (cl : List (Str × Addr)) (C : Addr) (fp : List Addr) : LamC (X.blk s H scope (compEnvC scope cl C X.env) fp) T c P q := ⟨l.tb, l.cd, l.ql, l.mem, l.uni⟩
theorem LamC.tr {X : Cx} {T : Tb} {c P : Addr} {q : Str} (l : LamC X T c P q) (pn : List (Addr × Obj)) (xe : Value → Shared → Prop) : LamC (X.tr pn xe) T c P q := ⟨l.tb, l.cd, l.ql, l.mem, l.uni⟩
theorem LamC.of {X : Cx} {T : Tb} {c P : Addr} {x : Str} (fr : Fr X x (.ref c)) (tb : LamX.TabB X.base X.mg c P) (mem : (P, x ++ ".<locals>." ++ "<lambda>") ∈ T.tb) (uni : ∀ p ∈ T.tb, p.1 = P → p.2 = x ++ ".<locals>." ++ "<lambda>") : LamC X T c P (x ++ ".<locals>." ++ "<lambda>") :=
  ⟨tb, fr.cd, by rw [fr.ql], mem, uni⟩
section
variable {X : Cx} {pins : List (Addr × Obj)} {σ : L2.St} {H : Hp} {s : Shared}
/-- the lambda called in the def Z that got it -/
theorem pe_thunk {T : Tb} {Z : Cx} {Ng : List Str} {sg : Scope} {x a q : Str} {g f c' : Addr} {cdg pm ctv : Value} {params : Arguments} {body : Expr} {scope : Scope} {k i : Nat} {pn : List (Addr × Obj)} {xe : Value → Shared → Prop} {W : WX} {fE : EM} {p1 p2 : Pos} {E0 : XK} (I : Inv X pins σ H s) (L : LamX.LamS X.env.scope scope) (hq : X.env.qual ++ "<lambda>" = q)
    (hf : s.heap.get? f = some (PySem.W.kla_obj "<lambda>" q params body scope (cloFrom X.env.cells scope.names []) pm c' ctv)) (hfn : H f = none) (hfr : f ∉ frs X.stack) (hbind : bindArgs (PySem.W.kla_fn "<lambda>" q params body scope (cloFrom X.env.cells scope.names []) pm (.ref c') ctv) ⟨[], []⟩ = pure [])
    (eZ : Z = cxOf (L2.CX X.prog X.w) X.prog X.w X.K X.mg X.base Ng x sg g cdg X.A X.stack s H E0) (tk : Takes (Z.tr pn xe) W) (hr : Room (k + 1) Z.A) (hg : X.A.guards = some [])
    (hbody : ∀ (A : Around) (outer : List Env) (s : Shared) (H : Hp) (E : XK), A.guards = some [] → Room k (A.deeper (LamX.lamEnv X scope s.heap.objs.size f c')) → SE (LamX.lamCx X A outer s H E scope f c') T (fun cls d _ H' => E cls d H') body fE)
    (hN : Ng[i]? = some a) (hv : Vis sg a) (hd : (a == ("__debug__" : Str)) = false) (hcd : (a == ("__classdict__" : Str)) = false) :
    PE (Z.tr pn xe) (.Call (.Name a p1) [] [] p2) (fun σZ HZ Q => σZ[i]? = some (some (.ref f)) ∧ HZ c' = some (LamX.CodeO c' q) ∧ Tof T (fun cls d _ H' => W cls d σZ H') (tlE T) fE σ HZ Q) := by
  subst hq eZ
  refine ⟨fun pinsZ sZ σZ HZ Q J h => ?_⟩
  obtain ⟨h1, h2, h3⟩ := h
  have nm := (pe_var (pos := p1) (i := i) hN hv hd hcd).run pinsZ sZ σZ HZ (fun v H1 => v = .ref f ∧ H1 = HZ) J ⟨.ref f, h1, rfl, rfl⟩
  refine wpAny_Call_Name_kw (thn nm ?_)
  rintro u s1 ⟨v, H1, J1, rv, rfl, rfl⟩
  obtain rfl : u = Value.ref f := rv
  have g1 := J1.base.keep f _ hf hfn hfr (fun z => nomatch (show f ∈ ([] : List Addr) from z))
  obtain ⟨⟨oc, vs, t, hoc, hdc, hvc⟩, _⟩ := J1.hok c' _ h2
  refine PySem.W.callWith_F0 ⟨_, _, _, _, g1⟩ ?_
  have run : codeAny (model X.prog X.w) (X.A.deeper (envOfC x sg s.heap.objs.size g cdg)) (.call (.ref f) ⟨[], []⟩) (CR (L2.CX X.prog X.w) (envOfC x sg s.heap.objs.size g cdg :: X.stack) X.prog X.w H1 s1 Q fun cls d H' => W cls d σZ H') s1 := by
    refine PySem.W.kla_callFunE hr.depth g1 rfl L.co L.gen rfl ⟨c', oc, vs, t, rfl, hoc, hdc, hvc⟩ ?_
    rw [hbind]
    refine wpAny_pure (wpAny_newFunctionEnv (fun y hy => (L.own y hy).2) (fun y hy => absurd hy List.not_mem_nil) (fun h1 hns hsb => ⟨J1.nolimit.fresh _ hsb, ?_⟩) L.kind)
    have kp : ∀ b o, s1.heap.get? b = some o → h1.get? b = some o := fun b o e => hsb.extBut b o (Nat.ne_of_lt (Heap.lt_size e)) (Heap.get?_push_of_some _ e)
    have K1 := LamX.lam_start2 (A := X.A.deeper (envOfC x sg s.heap.objs.size g cdg)) (outer := envOfC x sg s.heap.objs.size g cdg :: X.stack) (E := fun cls d H' => W cls d σZ H') (f := f) (c' := c') (tk := s1.toks + ([] : List (Str × Value)).length) I L J1.env0 hr.hd J1.base hns kp
    refine PySem.W.kla_codeExpr (wpAny_mono ((hbody (X.A.deeper (envOfC x sg s.heap.objs.size g cdg)) _ s1 H1 _ hg (hr.deeper _)).run [] _ _ H1 Q K1 h3) ?_ fun _ _ z => z)
    rintro v s' ⟨w', H', K', rv, q⟩
    exact ⟨w', H', K'.os, K'.bare, K'.base, K'.hok, rv, q⟩
  refine wpAny_call (codeAny_mono run ?_)
  intro r s' hq
  cases r with
  | error e => exact tk e s' (XE.of_call J1 (fun _ _ _ z => z) hq)
  | ok fl =>
    cases fl with
    | ret u => exact J1.after hq
    | next => exact hq.elim
    | brk => exact hq.elim
    | cont => exact hq.elim
end
def saidR (mt : Nat → Option Bool) (wd : Nat → List PyData → Option PyData) : Option (Oe R) → Option (Oe R)
  | some (.ok r ρ1) => bindF (frz ρ1 r) fun d ρ2 => some (.ok (.dat (.tuple [.str "told", d])) ρ2)
  | some (.er c fs ρ1) => match mt c with
    | some true => match wd c fs with
      | some d => some (.ok (.dat d) ρ1)
      | none => none
    | _ => none
  | none => none
def saidM (mt : Nat → Option Bool) (wd : Nat → List PyData → Option PyData) (fE : EM) : EM := fun ρ => saidR mt wd (fE ρ)
@[simp] theorem saidM_e (mt : Nat → Option Bool) (wd : Nat → List PyData → Option PyData) (fE : EM) (ρ : Rho) : saidM mt wd fE ρ = saidR mt wd (fE ρ) := eqI rfl
@[simp] theorem saidR_ok (mt : Nat → Option Bool) (wd : Nat → List PyData → Option PyData) (r : R) (ρ : Rho) : saidR mt wd (some (.ok r ρ)) = bindF (frz ρ r) fun d ρ2 => some (.ok (.dat (.tuple [.str "told", d])) ρ2) := eqI rfl
theorem saidR_er {mt : Nat → Option Bool} {wd : Nat → List PyData → Option PyData} {c : Nat} {fs : List PyData} {d : PyData} (h1 : mt c = some true) (h2 : wd c fs = some d) (ρ : Rho) : saidR mt wd (some (.er c fs ρ)) = some (.ok (.dat d) ρ) := by
  show (match mt c with | some true => (match wd c fs with | some d => some (Oe.ok (R.dat d) ρ) | none => none) | _ => none) = _
  rw [h1]
  show (match wd c fs with | some d => some (Oe.ok (R.dat d) ρ) | none => none) = _
  rw [h2]
/-- what the suite hands back: m slots, the exception in slot i -/
def suitD (m i : Nat) (fh : SM) (c : Nat) (fs : List PyData) : Option PyData := match fh ((List.replicate m none).set i (some (.ex c fs))) with
  | some (.rt (.dat d) _) => some d
  | _ => none
/-- the def that takes a lambda -/
structure SaidE (P : Program) (w : World) (mg : Str → Option Value) (base : Heap) (T : Tb) (x : Str) (k : Nat) (mt : Nat → Option Bool) (wd : Nat → List PyData → Option PyData) : Prop where
  ex : ∃ (g : Addr) (fd : FuncData) (st : Stmt) (Ng : List Str) (a e ex : Str) (i : Nat) (cS : Value) (fh : SM) (b₀ : Stmt) (suite : List Stmt) (po j2 : Nat) (q1 q2 q3 q4 q5 q6 q7 q8 : Pos), mg x = some (.ref g) ∧ Fun T.K x x st g fd ∧ Binds T.K fd [a] [] ∧ FnScope Ng [a] (defScope st) ∧ Vis (defScope st) a ∧ (a == ("__debug__" : Str)) = false ∧ (a == ("__classdict__" : Str)) = false ∧ Ng[i]? = some e ∧ (defScope st).names.lookup e = some .local ∧ i ≠ 0 ∧
    ((defScope st).names.lookup ex = some .globalImplicit ∧ (ex == ("__debug__" : Str)) = false ∧ mg ex = some cS) ∧ (∀ c b, mt c = some b → PySem.W.exmOne T.K (.ref (T.ca c)) cS = some b) ∧ wd = suitD Ng.length i fh ∧
    defBody st = [.Try [.Return (some (.Tuple [.Constant (.str "told") po q1, .Call (.Name a q2) [] [] q3] j2 q4)) q5] [.ExceptHandler (some (.Name ex q6)) (some e) (b₀ :: suite) q7] [] [] q8] ∧
    ∀ (X : Cx) (W : WX) (HB : Hp) (A : Addr) (c : Nat) (d : Option Addr), X.prog = P → X.w = w → X.mg = mg → X.base = base → At X Ng (defScope st) → X.env.scope.kind = .function → (∀ x, X.fn x = true) → CxH X (T.at A c d) k → SB X (T.at A c d) W ⟨HB, 1, fun _ => false⟩ (b₀ :: suite) fh
theorem EnvR.grew {T : Tb} {H H1 : Hp} {F : Reg} {O : Ows} {σ : L2.St} {ρ : Rho} (E : EnvR T H F O σ ρ) (g : Grew H H1) (tb : LamX.Tabs T.tb H1) : EnvR T H1 F O σ ρ :=
  ⟨E.len, fun i r e => let ⟨v, h1, h2⟩ := E.at_ i r e; ⟨v, h1, h2.mono (E.kept (g.ext (s := false))) (fun _ h => h) fun a o ha ho => g.keep a o ho (E.nc ha ho).1⟩, E.own, E.inj, E.nf, fun b hb z => E.lv b hb (g.live b z), tb⟩
theorem backA_nil (ρ : Rho) (os : Rho) : backA ρ [] os = ρ := by
  unfold backA
  refine List.ext_getElem? fun j => ?_
  rw [List.getElem?_mapIdx]
  cases q : ρ[j]? with
  | none => rfl
  | some x =>
    show some (if isOwn x = true then (match posOf j [] with | some k => mend x os[k]?.join | none => x) else x) = some x
    split <;> rfl
theorem At.lam {X : Cx} {N : List Str} {sc : Scope} (a : At X N sc) (A : Around) (outer : List Env) (s : Shared) (H : Hp) (E : XK) (scope : Scope) (f c' : Addr) : At (LamX.lamCx X A outer s H E scope f c') N scope := ⟨a.hN, rfl⟩
section
variable {X : Cx} {T : Tb} {W : WX} {N : List Str} {sc : Scope} {n k kb : Nat} {x q : Str} {c P : Addr} {mt : Nat → Option Bool} {wd : Nat → List PyData → Option PyData} {params : Arguments} {body : Expr} {scope : Scope} {fE : EM} {p pos lpos : Pos}
theorem se_said (l : At X N sc) (hx : gnB sc x = true) (cx : Cxt X T W n) (hh : T.hot = none) (lc : LamC X T c P q) (sd : SaidE X.prog X.w X.mg X.base T x k mt wd) (hn : kb + 2 ≤ n) (hk : k + 1 ≤ n) (hs : LamX.lamSB sc scope = true)
    (hb : ∀ (A : Around) (outer : List Env) (s : Shared) (H : Hp) (E : XK) (f c' : Addr), Cxt (LamX.lamCx X A outer s H E scope f c') T (fun cls d _ H' => E cls d H') kb → SE (LamX.lamCx X A outer s H E scope f c') T (fun cls d _ H' => E cls d H') body fE)
    (hdef : defaultsOf params X.env = ([], []) := by rfl) (hbind : ∀ (q : Str) (cl : List (Str × Addr)) (pm cv ctv : Value), bindArgs (PySem.W.kla_fn "<lambda>" q params body scope cl pm cv ctv) ⟨[], []⟩ = pure [] := by intros; rfl) :
    SE X T W (.Call (.Name x p) [.Lambda params body scope lpos] [] pos) (saidM mt wd fE) := by
  have hK := cx.hK
  have L : LamX.LamS X.env.scope scope := by rw [l.hs]; exact LamX.lamS_by hs
  obtain ⟨g, fd, st, Ng, a, e, ex, i, cS, fh, b₀, suite, po, j2, q1, q2, q3, q4, q5, q6, q7, q8, hm, G, hbd, Sg, hva, hd1, hd2, hNe, hle, hi0, ⟨hge, hde, hme⟩, hmt, hwd, hbody, hsu⟩ := sd.ex
  obtain ⟨oc, od, kV, doc, pmg, an, cdv, ct, osl, rfl, lk, hcd⟩ := G.ex
  have gk := G.kp
  rw [← hK] at hbd lk hcd gk
  have hN0 : Ng[0]? = some a := by
    have h := Sg.pre
    cases Ng with
    | nil => simp at h
    | cons y r => simp at h; simp [h]
  have hNl : 1 ≤ Ng.length := lt_of_at hN0
  refine ⟨fun pins s σ H Q I h => ?_⟩
  obtain ⟨ρ, F, O, E, P0⟩ := h
  refine wpAny_Call_Name_kw (ld_glob I (l.gl hx).1 hm ?_ (l.gl hx).2.1)
  refine PySem.W.callWith_K (h₀ := X.base) I.ok.mod.kin gk ?_ (by rfl) (by rfl)
  refine Calls.spliced_cons (lam_mk I lc.tb lc.cd lc.ql lc.mem lc.uni E.tb hdef (L.has I.ok) ?_)
  intro f c' pm ctv H1 s' I1 gr tb1 hf hfn hfr hco
  refine Calls.spliced_nil ⟨I1.kIn, ?_⟩
  have E1 := E.grew gr tb1
  obtain ⟨k', rfl⟩ : ∃ k', n = k' + 1 := ⟨n - 1, by omega⟩
  let ctx := cxOf (L2.CX X.prog X.w) X.prog X.w X.K X.mg X.base Ng x (defScope st) g cdv X.A X.stack s' H1 (fun _ _ _ => False)
  have rc : codeAny (model X.prog X.w) X.A (.call (.ref g) ⟨[.ref f], []⟩) (CR (L2.CX X.prog X.w) X.stack X.prog X.w H1 s' Q fun _ _ _ => False) s' := by
    refine LamX.run_ofS (N := Ng) (ps := [a]) (us := [.ref f]) (vs := [.ref f]) lk hcd Sg cx.room I1.env0 (hbd s' [.ref f] I1.kIn rfl) (.cons rfl .nil) rfl fun hr' => ?_
    rw [hbody]
    have tk0 : Takes ctx (fun _ _ _ _ => False) := takes_of (X := ctx) (E := fun _ _ _ => False) rfl rfl rfl rfl
    refine ⟨_, pss_one (ps_try_as (X := ctx) (c := cS) (i := i) (ts := fun A cls d D σ H => ∃ c, cls = .ref (T.ca c) ∧ TSof (T.at A c d) W0 ⟨H1, 1, fun _ => false⟩ fh D σ H)
      (tb := fun W' => tRet (tTup (tCons (tC (.str "told")) (tCons (fun σZ HZ Q => σZ[0]? = some (some (.ref f)) ∧ HZ c' = some (LamX.CodeO c' q) ∧ Tof T (fun cls d _ H' => W' cls d σZ H') (tlE T) fE σ HZ Q) tNil)))) rfl rfl Sg.nd hNe hle ⟨hge, hde, .inl hme⟩ tk0 (fun W' pn xe tk po => ?_) (fun A oe cls d pn hz hf => ⟨fun pins s σ H D I h => ?_⟩)), ?_⟩
    · refine pss_one (ps_ret (pe_tup (pa_cons pe_str (pa_cons (pe_thunk (k := kb) I1 L lc.ql hf hfn hfr (hbind _ _ _ _ _) rfl tk (hr'.mono (by omega)) cx.gd (fun A outer s H E' hg hr => ?_) hN0 hva hd1 hd2) pa_nil))))
      exact hb A outer s H E' f c' ⟨hK, cx.hw, rfl, hr, hg, takes_of rfl rfl rfl rfl, passes_of rfl, cx.nd, cx.sm⟩
    · obtain ⟨ec, rfl, h2⟩ := h
      exact (hsu (ctx.suite A ((A, oe) :: pn)) W0 H1 A ec d rfl rfl rfl rfl ⟨rfl, rfl⟩ Sg.kind (fun _ => rfl) ⟨hK, cx.hw, cx.gd, ⟨(hr'.mono (by omega)).dp, (hr'.mono (by omega)).un⟩, Sg.nd, cx.sm, A, oe, ec, d, rfl, List.mem_cons_self, hz, hf⟩).run pins s σ H D I h2
    · have s0 : (L2.start Ng [V.ref f])[0]? = some (some (.ref f)) := start_put rfl
      have sl : (L2.start Ng [V.ref f]).length = Ng.length := by
        unfold L2.start
        simp
        omega
      refine ⟨s0, hco, ρ, F, O, E1, ?_⟩
      have P1 : Post T W (tlE T) σ H F O Q (saidR mt wd (fE ρ)) := P0
      cases qf : fE ρ with
      | none => rw [qf] at P1; exact P1
      | some o =>
        rw [qf] at P1
        cases o with
        | ok r ρ1 =>
          intro v H2 F2 O2 x2 E2 r2
          refine ⟨show 2 ≤ sizeLine by decide, fun pt hpt => ?_⟩
          have P2 : Post T W (tlE T) σ H F O Q (bindF (frz ρ1 r) fun d ρ2 => some (.ok (.dat (.tuple [.str "told", d])) ρ2)) := P1
          cases q6 : frz ρ1 r with
          | none => rw [q6] at P2; exact P2.elim
          | some pr =>
            obtain ⟨d, ρ2⟩ := pr
            rw [q6] at P2
            have y2 : Ext false H F O H2 F2 O2 := (gr.ext).trans x2
            obtain ⟨F3, O3, y3, E3, d3, g3, s3, n3⟩ := fz y2 gr.live E2 r2 q6
            exact P2 (.ref pt) _ F3 O3 (y3.trans (.laid hpt)) (E3.laid hpt) (.tup (.inl (.inl upd_same)) (.cons (.str _) (.cons (d3.mono (fun b o h _ => kept_new hpt b o h) fun _ h => h) .nil)))
        | er ec fs ρ1 =>
          intro cls d H2 F2 O2 x2 E2 ex2
          have ecls : cls = .ref (T.ca ec) := ex2.1
          subst ecls
          have P2 : Post T W (tlE T) σ H F O Q (match mt ec with
            | some true => (match wd ec fs with
              | some d => some (.ok (.dat d) ρ1)
              | none => none)
            | _ => none) := P1
          split at P2
          · rename_i hmc
            split at P2
            · rename_i d' hw'
              refine ⟨true, by rw [show ctx.K = X.K from rfl, hK]; exact hmt ec true hmc, fun _ A hA => ⟨ec, rfl, ?_⟩, fun z => nomatch z⟩
              rw [hwd] at hw'
              unfold suitD at hw'
              have hil : i < (List.replicate Ng.length (none : Option R)).length := by rw [List.length_replicate]; exact lt_of_at hNe
              refine ⟨(List.replicate Ng.length none).set i (some (.ex ec fs)), F2, fun _ => [], ⟨⟨by rw [List.length_set, List.length_set, List.length_replicate, sl], fun j r' er => ?_, (fun _ _ z => absurd z List.not_mem_nil), (fun _ _ _ z => absurd z List.not_mem_nil), (fun _ _ z => absurd z List.not_mem_nil), E2.lv, E2.tb⟩, fun b hb2 => x2.live b hb2, fun _ _ _ z => absurd z List.not_mem_nil⟩, ?_⟩
              · by_cases hj : j = i
                · subst hj
                  rw [List.getElem?_set_self hil] at er
                  cases er
                  exact ⟨.ref A, List.getElem?_set_self (by rw [sl]; exact lt_of_at hNe), rfl, A, d, rfl, rfl, ex2⟩
                · rw [List.getElem?_set_ne (Ne.symm hj), List.getElem?_replicate] at er
                  split at er <;> cases er
              · cases qh : fh ((List.replicate Ng.length none).set i (some (.ex ec fs))) with
                | none => rw [qh] at hw'; cases hw'
                | some oh =>
                  rw [qh] at hw'
                  cases oh with
                  | rt rr ρ3 =>
                    cases rr with
                    | dat d0 =>
                      cases hw'
                      intro v σ3 H3 F3 O3 x3 S3 k3 r3
                      have x4 : Ext true H2 F2 (Oa (fun _ => []) O2 []) H3 F3 (fun _ => []) := ⟨fun b o h1 h2 h3 => x3.keep b o h1 (fun _ z => absurd z List.not_mem_nil) h3, x3.live, x3.grow, fun b h1 => (x3.new b h1).elim .inl fun z => z.elim (fun ⟨_, z⟩ => absurd z List.not_mem_nil) fun y => .inr (.inr y), fun _ _ z => absurd z List.not_mem_nil⟩
                      have E4 : EnvR T H3 F3 (fun _ => []) (([] : List V).map some) [] := ⟨rfl, (fun i r e => by simp at e), (fun _ _ z => absurd z List.not_mem_nil), (fun _ _ _ z => absurd z List.not_mem_nil), (fun _ _ z => absurd z List.not_mem_nil), S3.E.lv, S3.E.tb⟩
                      obtain ⟨O5, x5, E5, _⟩ := env_back E2 (B := H2) (vs := []) (rs := []) (args := []) rfl .nil (fun _ _ _ h => by simp at h) rfl .refl x4 E4
                      rw [backA_nil] at E5
                      exact P2 v H3 F3 O5 ((gr.ext).trans (x2.trans x5)) E5 r3
                    | _ => cases hw'
                  | _ => cases hw'
            · exact P2.elim
          · exact P2.elim
  refine wpAny_call (codeAny_mono rc ?_)
  intro r s2 hq
  cases r with
  | error e =>
    obtain ⟨_, _, _, _, _, _, _, _, _, _, _, _, z⟩ := hq
    exact z.elim
  | ok fl =>
    cases fl with
    | ret u => exact I1.after hq
    | next => exact hq.elim
    | brk => exact hq.elim
    | cont => exact hq.elim
end
end DL
namespace DL
open PySem PyProof.Rows
open L2 hiding Sp
def noM : EM := fun _ => none
@[simp] theorem noM_e (ρ : Rho) : noM ρ = none := eqI rfl
def noS : SM := fun _ => none
@[simp] theorem noS_e (ρ : Rho) : noS ρ = none := eqI rfl
section
variable {X : Cx} {T : Tb} {W : WX} {n : Nat} {N : List Str} {sc : Scope} {a b o e : Expr} {fa fb fo fe : EM} {pos p apos : Pos}
theorem RoomH_units {n : Nat} {A : Around} (r : L2H.RoomH n A) : A.units + 64 < cLine := by have := r.un; omega
theorem h_add (c : CxH X T n) (ha : SE X T W a fa) (hb : SE X T W b fb) : SE X T W (.BinOp a .Add b pos) (op2M dPlus fa fb) := se_op (c.hK ▸ op_plus) does_plus ha hb
theorem ht_ne (c : CxH X T n) (ha : SE X T W a fa) (hb : SE X T W b fb) : ST X T W (.Compare a [.NotEq] [b] pos) (tsM (op2M dNe fa fb)) := st_cmp (op_ne.or (c.hK ▸ op_neD (RoomH_units c.room))) does_ne ha hb (nomark _)
theorem h_ixA (c : CxH X T n) (ha : SE X T W a fa) (hb : SE X T W b fb) (hs : PlainIx b := by exact fun _ _ => rfl) : SE X T W (.Subscript a b pos) (op2M dIxA fa fb) :=
  se_ix ((c.hK ▸ ix_seq (X := X)).or ix_dK) does_ixA hs ha hb
/-- xs.count(e), xs.index(e) -/
theorem e_cnt (hK : X.K = T.K) (ho : SE X T W o fo) (he : SE X T W e fe) (hbase : attributeBase o "count" X.env (eval o X.env) = eval o X.env := by rfl)
    (hfew : ((backTo pos (starEach [e] X.env)).all (fun x => !x.1) && (backToKw pos (keywordEach [] X.env)).all (fun x => x.1.isSome) && decide ([e].length + ([] : List Keyword).length + (if ([] : List Keyword).isEmpty then 0 else 1) < 30)) = true := by rfl)
    (hline : (apos.endLine == pos.line) = true := by rfl) (hs : starEach [e] X.env = (false, eval e X.env) :: starEach [] X.env := by rfl) (hpl : (backTo pos (starEach [] X.env)).any (·.1) = false := by rfl) :
    SE X T W (.Call (.Attribute o "count" apos) [e] [] pos) (lmM dCnt fo fe) :=
  se_cnt hK (pe_bm PySem.F.plainAttrs_list PySem.F.slot_list_count PySem.F.type_list_count mt_cnt ho (pa_cons he pa_nil hs) hbase hfew hline hs hpl)
theorem e_idx (hK : X.K = T.K) (ho : SE X T W o fo) (he : SE X T W e fe) (hbase : attributeBase o "index" X.env (eval o X.env) = eval o X.env := by rfl)
    (hfew : ((backTo pos (starEach [e] X.env)).all (fun x => !x.1) && (backToKw pos (keywordEach [] X.env)).all (fun x => x.1.isSome) && decide ([e].length + ([] : List Keyword).length + (if ([] : List Keyword).isEmpty then 0 else 1) < 30)) = true := by rfl)
    (hline : (apos.endLine == pos.line) = true := by rfl) (hs : starEach [e] X.env = (false, eval e X.env) :: starEach [] X.env := by rfl) (hpl : (backTo pos (starEach [] X.env)).any (·.1) = false := by rfl) :
    SE X T W (.Call (.Attribute o "index" apos) [e] [] pos) (lmM dIdx fo fe) :=
  se_idx hK (pe_bm PySem.F.plainAttrs_list PySem.F.slot_list_index PySem.F.type_list_index mt_index ho (pa_cons he pa_nil hs) hbase hfew hline hs hpl)
/-- an own class of errors, a built-in one -/
theorem clsN_own {x : Str} {c : Nat} (h : X.mg x = some (.ref (T.ca c))) : ClsN X x (.ref (T.ca c)) (.ref (T.ca c)) := ⟨.inl h, rfl, fun _ r => r⟩
theorem clsN_blt {x : Str} {t : String} (h : X.mg x = none) (hb : bootBuiltins x = some (.type t)) : ClsN X x (.ty t) (.type t) := ⟨.inr ⟨h, hb⟩, rfl, fun _ r => r⟩
end
theorem fn_gR {T : Tb} {P : Program} {w : World} {K : PySem.W.Frag} {mg : Str → Option Value} {base : Heap} {k n : Nat} {x qual : Str} {st : Stmt} {f : Addr} {fd : FuncData} {N ps : List Str} {pr : Nat → Bool} {m : SM} (G : Fun K x qual st f fd) (S : FnScope N ps (defScope st)) (hn : ps.length = n)
    (hK : K = T.K) (hw : w = T.w) (hsm : base.get? sysModules ≠ none)
    (body : ∀ (X : Cx) (W : WX) (H : Hp), X.prog = P → X.w = w → X.K = K → X.mg = mg → X.base = base → X.N = N → X.env.scope = defScope st → X.env.scope.kind = .function → X.fn = (fun _ => true) → Cxt X T W k → Fr X qual fd.code → SB X T W ⟨H, n, pr⟩ (defBody st) m) :
    FnG P w K mg base (k + 1) f fd ps (spOf T n (runD n N.length pr m)) := by
  have hN : n ≤ N.length := by
    have h := congrArg List.length S.pre
    rw [List.length_take] at h
    omega
  obtain ⟨oc, od, kV, doc, pm, an, cdv, ct, osl, rfl, lk, hcd⟩ := G.ex
  refine ⟨fun vs H Q E ⟨_, _, _, hl, _⟩ => hl.trans hn.symm, ?_⟩
  intro A outer s H args us vs Q E hg hr e0 hb r hsp
  have hl : vs.length = ps.length := by obtain ⟨_, _, _, q, _⟩ := hsp; exact q.trans hn.symm
  have kin : K.In s.heap := e0.mod.kin.keeps fun b o e => (e0.bs b o e).1
  have nolim : s.heap.NoLimit := e0.mod.nolimit.keeps fun b o e => (e0.bs b o e).1
  have kinds : ∀ y ∈ ps.zip us, (defScope st).names.lookup y.1 = some .local ∨ ((defScope st).names.lookup y.1 = some .cell ∧ ((cellsFrom (s.heap.objs.size + 1) (defScope st).names []).lookup y.1).isSome = true) := by
    rintro ⟨y, v⟩ hy
    exact (S.par y (List.of_mem_zip hy).1).imp id fun q => ⟨q, PySem.W.cellsFrom_some _ _ _ (.inl q)⟩
  refine codeAny_call_function hr.depth (kin _ _ lk) rfl S.co S.gen rfl (PySem.W.codeRec_of kin hcd) (hb _ _ _ _ ?_)
  refine wpAny_newFunctionEnv_cells S.kind kinds ?_
  rintro env rfl s1 ic
  refine ⟨nolim.keeps ic.toInCall.keep, codeAny_func ?_⟩
  let X := cxOf (L2.CX P w) P w K mg base N qual (defScope st) f cdv A outer s H E
  have I : L2.Inv X [] (L2.start N vs) H s1 := inv_start S hr.hd e0 hl r ic
  have cx : Cxt X T (fun cls d _ H' => E cls d H') k := ⟨hK, hw, rfl, hr.deeper _, hg, takes_of rfl rfl rfl rfl, passes_of rfl, S.nd, hsm⟩
  have B := body X _ H rfl rfl rfl rfl rfl rfl rfl S.kind rfl cx ⟨rfl, rfl, rfl, rfl⟩
  refine wpAny_mono (B.run [] s1 (L2.start N vs) H _ I (body_of hN hsp)) ?_ fun _ _ z => z
  intro fl s' hs
  cases fl with
  | ret u =>
    obtain ⟨v, σ', H', J, rv, q⟩ := hs
    exact ⟨v, H', J.os, J.bare, J.base, J.hok, rv, q⟩
  | next =>
    obtain ⟨σ', H', J, q⟩ := hs
    exact ⟨.non, H', J.os, J.bare, J.base, J.hok, rfl, q⟩
  | brk =>
    obtain ⟨_, _, _, q⟩ := hs
    exact q.elim
  | cont =>
    obtain ⟨_, _, _, q⟩ := hs
    exact q.elim
theorem fn_eR {T : Tb} {P : Program} {w : World} {mg : Str → Option Value} {base : Heap} {k n : Nat} {x qual : Str} {st : Stmt} {f : Addr} {fd : FuncData} {N ps : List Str} {pr : Nat → Bool} {m : SM} (G : Fun T.K x qual st f fd) (S : FnScope N ps (defScope st)) (hn : ps.length = n) (hmg : mg x = some (.ref f)) (hb : Binds T.K fd ps [])
    (hw : w = T.w) (hsm : base.get? sysModules ≠ none)
    (body : ∀ (X : Cx) (W : WX) (H : Hp), X.prog = P → X.w = w → X.mg = mg → X.base = base → At X N (defScope st) → X.env.scope.kind = .function → (∀ x, X.fn x = true) → Cxt X T W k → Fr X qual fd.code → SB X T W ⟨H, n, pr⟩ (defBody st) m) :
    FnE P w mg base T x (k + 1) n (runD n N.length pr m) :=
  ⟨f, fd, ps, hmg, G.kp, hb, hn, fn_gR G S hn rfl hw hsm fun X W H h1 h2 _ h4 h5 h6 h7 h8 h9 c fr => body X W H h1 h2 h4 h5 ⟨h6, h7⟩ h8 (fun x => by rw [h9]) c fr⟩
def pickR (sems : List Sem) (fa : AM) (ρ : Rho) (i : Option PyData) : Option (Oe R) := match i with
  | some (.int j) => match atI sems j with
    | some sem => callM sem fa ρ
    | none => none
  | _ => none
def pickM (sems : List Sem) (fi : EM) (fa : AM) : EM := fun ρ => bindO (fi ρ) fun r ρ1 => pickR sems fa ρ1 (val ρ1 r)
@[simp] theorem pickM_e (sems : List Sem) (fi : EM) (fa : AM) (ρ : Rho) : pickM sems fi fa ρ = bindO (fi ρ) fun r ρ1 => pickR sems fa ρ1 (val ρ1 r) := eqI rfl
section
variable {X : Cx} {T : Tb} {W : WX} {n k m : Nat} {N : List Str} {sc : Scope} {e b : Expr} {es ns : List Expr} {fi : EM} {fa : AM} {sems : List Sem} {pos p p2 : Pos}
/-- the defs at their places -/
inductive Pl (P : Program) (w : World) (mg : Str → Option Value) (base : Heap) (T : Tb) (k n : Nat) : List V → List Sem → Prop where
  | nil : Pl P w mg base T k n [] []
  | cons {f : Addr} {fd : FuncData} {ps : List Str} {sem : Sem} {j : Nat} {vs : List V} {sems : List Sem} : PySem.W.keepIn T.K (.ref f) = true → Binds T.K fd ps [] → ps.length = n → FnG P w T.K mg base j f fd ps (spOf T n sem) → j ≤ k → (∀ args o, sem args = some o → args.length = n) → Pl P w mg base T k n vs sems → Pl P w mg base T k n (.ref f :: vs) (sem :: sems)
theorem Pl.len {P : Program} {w : World} {mg : Str → Option Value} {base : Heap} : ∀ {vs : List V} {sems : List Sem}, Pl P w mg base T k n vs sems → vs.length = sems.length
  | _, _, .nil => rfl
  | _, _, .cons _ _ _ _ _ _ r => by rw [List.length_cons, List.length_cons, r.len]
theorem Pl.get {P : Program} {w : World} {mg : Str → Option Value} {base : Heap} : ∀ {vs : List V} {sems : List Sem} {i : Nat} {sem : Sem}, Pl P w mg base T k n vs sems → sems[i]? = some sem →
    ∃ f fd ps j, vs[i]? = some (.ref f) ∧ PySem.W.keepIn T.K (.ref f) = true ∧ Binds T.K fd ps [] ∧ ps.length = n ∧ FnG P w T.K mg base j f fd ps (spOf T n sem) ∧ j ≤ k ∧ ∀ args o, sem args = some o → args.length = n
  | _, _, _, _, .nil, e => by simp at e
  | _, _, 0, _, .cons a b c d e' g _, e => by simp at e; subst e; exact ⟨_, _, _, _, rfl, a, b, c, d, e', g⟩
  | _, _, i + 1, sem, .cons _ _ _ _ _ _ r, e => by
    obtain ⟨f, fd, ps, j, h⟩ := Pl.get (i := i) (sem := sem) r (by simpa using e)
    exact ⟨f, fd, ps, j, by simpa using h⟩
end
end DL
namespace DL
open PySem PyProof.Rows
open L2 hiding Sp
theorem mem_look {c : Nat} {b : Bool} : ∀ {l : List (Nat × Bool)}, l.lookup c = some b → (c, b) ∈ l
  | [], h => by cases h
  | (k, v) :: r, h => by
    rw [List.lookup_cons] at h
    by_cases e : c = k
    · subst e
      simp at h
      subst h
      exact List.mem_cons_self
    · have e' : (c == k) = false := by simpa using e
      rw [e'] at h
      exact List.mem_cons_of_mem _ (mem_look h)
theorem isTb_l {T : Tb} {cv : Value} {l : List (Nat × Bool)} (h : ∀ p ∈ l, excCB T.K (T.ca p.1) = true ∧ PySem.W.kitOne T.K (.ref (T.ca p.1)) cv = some p.2) : IsTb T cv (fun c => l.lookup c) := fun c b e => by
  have hm : (c, b) ∈ l := mem_look e
  exact h _ hm
theorem mt_l {T : Tb} {cv : Value} {l : List (Nat × Bool)} (h : ∀ p ∈ l, PySem.W.exmOne T.K (.ref (T.ca p.1)) cv = some p.2) : ∀ c b, l.lookup c = some b → PySem.W.exmOne T.K (.ref (T.ca c)) cv = some b := fun c b e => by
  have hm : (c, b) ∈ l := mem_look e
  exact h _ hm
section
variable {X : Cx} {T : Tb} {W : WX} {N : List Str} {sc : Scope} {n : Nat}
theorem At.tr (a : At X N sc) (pn : List (Addr × Obj)) (xe : Value → Shared → Prop) : At (X.tr pn xe) N sc := ⟨a.hN, a.hs⟩
theorem At.suite (a : At X N sc) (A : Addr) (pn : List (Addr × Obj)) : At (X.suite A pn) N sc := ⟨a.hN, a.hs⟩
end
/-- the suite of the one try -/
def suitOf : List Stmt → List Stmt
  | [.Try _ [.ExceptHandler _ _ b _] _ _ _] => b
  | _ => []
/-- the def that takes lambdas, by its text -/
theorem said_e {T : Tb} {P : Program} {w : World} {mg : Str → Option Value} {base : Heap} {k i ks : Nat} {x a e ex : Str} {st : Stmt} {g : Addr} {fd : FuncData} {Ng : List Str} {mt : Nat → Option Bool} {fh : SM} {b₀ : Stmt} {suite : List Stmt} {po j2 : Nat} {q1 q2 q3 q4 q5 q6 q7 q8 : Pos} (G : Fun T.K x x st g fd) (S : FnScope Ng [a] (defScope st)) (hm : mg x = some (.ref g)) (hb : Binds T.K fd [a] [])
    (hv : (visB (defScope st) a && !(a == ("__debug__" : Str)) && !(a == ("__classdict__" : Str)) && decide (Ng[i]? = some e) && lclB (defScope st) e && decide (i ≠ 0) && gnB (defScope st) ex) = true) (gx : mg ex = some (.ref (T.ca ks))) (hmt : ∀ c b, mt c = some b → PySem.W.exmOne T.K (.ref (T.ca c)) (.ref (T.ca ks)) = some b)
    (hbody : defBody st = [.Try [.Return (some (.Tuple [.Constant (.str "told") po q1, .Call (.Name a q2) [] [] q3] j2 q4)) q5] [.ExceptHandler (some (.Name ex q6)) (some e) (b₀ :: suite) q7] [] [] q8])
    (hsu : ∀ (X : Cx) (W : WX) (HB : Hp) (A : Addr) (c : Nat) (d : Option Addr), X.prog = P → X.w = w → X.mg = mg → X.base = base → At X Ng (defScope st) → X.env.scope.kind = .function → (∀ x, X.fn x = true) → CxH X (T.at A c d) k → SB X (T.at A c d) W ⟨HB, 1, fun _ => false⟩ (b₀ :: suite) fh) :
    SaidE P w mg base T x k mt (suitD Ng.length i fh) := by
  simp only [Bool.and_eq_true, Bool.not_eq_true', decide_eq_true_eq] at hv
  obtain ⟨⟨⟨⟨⟨⟨h1, h2⟩, h3⟩, h4⟩, h5⟩, h6⟩, h7⟩ := hv
  unfold gnB at h7
  simp only [Bool.and_eq_true, Bool.not_eq_true', decide_eq_false_iff_not] at h7
  exact ⟨g, fd, st, Ng, a, e, ex, i, .ref (T.ca ks), fh, b₀, suite, po, j2, q1, q2, q3, q4, q5, q6, q7, q8, hm, G, hb, S, visB_ok h1, h2, h3, h4, lclB_ok h5, h6, ⟨glB_ok h7.1.1, h7.1.2, gx⟩, hmt, rfl, hbody, hsu⟩
section
variable {X : Cx} {T : Tb} {W : WX} {N : List Str} {sc : Scope} {k m : Nat} {x : Str} {sem : Sem} {p pos : Pos}
/-- f() -/
theorem se_f0 (a : At X N sc) (hx : gnB sc x = true) (c : Cxt X T W m) (h : FnE X.prog X.w X.mg X.base T x k 0 sem) (hl : ∀ args o, sem args = some o → args.length = 0) (hk : k ≤ m) : SE X T W (.Call (.Name x p) [] [] pos) (callM sem nilA) := by
  obtain ⟨f, fd, ps, hm, hkp, hb, hn, G⟩ := h.ex
  rw [← c.hK] at hkp hb G
  refine ⟨fun pins s σ H Q I h => ?_⟩
  have h2 := call_of (n := 0) h fun vs rs H0 H1 F1 O1 rr args ρ pa o so => by rw [resRs_len rr, ← passA_len pa]; exact hl args o so
  obtain ⟨ρ, F, O, E, P⟩ := h2
  have q : spOf T 0 sem [] H Q fun cls d H' => W cls d σ H' := P [] H F O .refl E .nil
  refine wpAny_Call_Name_kw (ld_glob I (a.gl hx).1 hm (PySem.W.callWith_K0 I.kIn hkp ?_) (a.gl hx).2.1)
  have bb := hb s [] I.kIn (by rw [List.append_nil]; exact hn.symm)
  rw [List.append_nil] at bb
  refine wpAny_call (codeAny_mono (G.run X.A X.stack s H ⟨[], []⟩ [] [] Q _ c.gd (c.room.mono hk) I.env0 bb .nil q) ?_)
  intro r' s' hq
  cases r' with
  | error e => exact c.tk e s' (XE.of_call I (fun _ _ _ z => z) hq)
  | ok fl =>
    cases fl with
    | ret u => exact I.after hq
    | next => exact hq.elim
    | brk => exact hq.elim
    | cont => exact hq.elim
end
end DL
namespace DL
open PySem PySem.Spec PyProof.Rows
open L2 hiding Sp
def rg3 (i k : Int) (m : Nat) : List PyData := (List.range m).map fun (t : Nat) => .int (i + (t : Int) * k)
def lr3M (i k : Int) (m : Nat) : EM := fun ρ => some (.ok (.own (.list (rg3 i k m))) ρ)
@[simp] theorem lr3M_e (i k : Int) (m : Nat) (ρ : Rho) : lr3M i k m ρ = some (.ok (.own (.list (rg3 i k m))) ρ) := eqI rfl
end DL
namespace DL
open PySem PySem.Spec PyProof.Rows
open L2 hiding Sp
open PySem.W (alike alikeAll dataLt keyToks AllAlike Sortable dataLe KeyedOut EachIs)
def minDf (ns : List Int) (d : Int) : Int := if ns = [] then d else minL ns
/-- min(a, default=b) -/
def mdM (f g : EM) : EM := fun ρ => bindO (f ρ) fun r ρ1 => bindO (g ρ1) fun s ρ2 => match val ρ2 r, s with
  | some (.list ds), .dat (.int d) => (intsOf ds).map fun ns => .ok (.dat (.int (minDf ns d))) ρ2
  | _, _ => none
@[simp] theorem mdM_e (f g : EM) (ρ : Rho) : mdM f g ρ = bindO (f ρ) fun r ρ1 => bindO (g ρ1) fun s ρ2 => match val ρ2 r, s with
  | some (.list ds), .dat (.int d) => (intsOf ds).map fun ns => .ok (.dat (.int (minDf ns d))) ρ2
  | _, _ => none := eqI rfl
end DL
namespace DL
open PySem PySem.Spec PyProof.Rows
open L2 hiding Sp
/-- a key by a tuple of whole numbers -/
def keyT : PyData → Option (List Int)
  | .tuple ds => intsOf ds
  | _ => none
@[simp] theorem keyT_k (k : List Int) : keyT (kT k) = some k := by show intsOf _ = _; rw [intsOf_map]
def atT : List (PyData × PyData) → List Int → Option PyData
  | [], _ => none
  | (k, d) :: r, y => if keyT k = some y then some d else atT r y
end DL
namespace DL
open PySem PySem.Spec PyProof.Rows
open L2 hiding Sp
def isDict : Option (Option R) → Bool
  | some (some (.own (.dict _))) => true
  | _ => false
/-- by ints and texts (or empty) -/
def isKD : List (PyData × PyData) → Bool
  | [] => true
  | (k, _) :: _ => isKey k
/-- by tuples -/
def isTD : List (PyData × PyData) → Bool
  | [] => false
  | (k, _) :: _ => (keyT k).isSome
def putD (ds : List (PyData × PyData)) (k d : PyData) : List (PyData × PyData) := if (ds.any fun p => keq p.1 k) = true then ds.map (fun p => if keq p.1 k = true then (p.1, d) else p) else ds ++ [(k, d)]
def setKR (s : Nat) (d : PyData) (y : Option PyData) (ρ : Rho) : Option (Option R) → Option Ot
  | some (some (.own (.dict ds))) => match y with
    | some y => if ds.length < lim then (if isKey y = true then (if isKD ds = true then some (.nx (ρ.set s (some (.own (.dict (putD ds y d)))))) else none) else match keyT y with
        | some k => if (ds.isEmpty || isTD ds) = true ∧ atT ds k = none then some (.nx (ρ.set s (some (.own (.dict (ds ++ [(y, d)])))))) else none
        | none => none) else none
    | none => none
  | _ => none
def setKM (s : Nat) (fi fe : EM) : SM := fun ρ => bindS (fe ρ) fun r ρ1 => match frz ρ1 r with
  | some (d, ρ2) => if isDict ρ2[s]? = true then bindS (fi ρ2) fun ri ρ3 => setKR s d (val ρ3 ri) ρ3 ρ3[s]? else none
  | none => none
@[simp] theorem isDict_e (ds : List (PyData × PyData)) : isDict (some (some (.own (.dict ds)))) = true := eqI rfl
@[simp] theorem setKM_e (s : Nat) (fi fe : EM) (ρ : Rho) : setKM s fi fe ρ = bindS (fe ρ) fun r ρ1 => bindF (frz ρ1 r) fun d ρ2 => pick (isDict ρ2[s]?) (fun ρ => bindS (fi ρ) fun ri ρ3 => setKR s d (val ρ3 ri) ρ3 ρ3[s]?) (fun _ => none) ρ2 := eqI rfl
theorem any_dfk {K : PySem.W.Frag} {H : Hp} {F : Reg} (k : Key) : ∀ {ks : List (Key × V)} {ds : List (PyData × PyData)}, DFk K H F ks ds → (ks.any fun kv => decide (kv.1 = k)) = ds.any fun p => keq p.1 (kD k)
  | _, _, .nil => rfl
  | _, _, .cons a b => by rw [List.any_cons, List.any_cons, any_dfk k b, keq_kD]
theorem DFk.repl {K : PySem.W.Frag} {H : Hp} {F : Reg} {k : Key} {v : V} {d : PyData} (hd : DF K H F v d) : ∀ {ks : List (Key × V)} {ds : List (PyData × PyData)}, DFk K H F ks ds → DFk K H F (ks.map fun kv => if kv.1 = k then (kv.1, v) else kv) (ds.map fun p => if keq p.1 (kD k) = true then (p.1, d) else p)
  | _, _, .nil => .nil
  | _, _, .cons (k := j) a b => by
    rw [List.map_cons, List.map_cons]
    simp only [keq_kD]
    by_cases e : j = k
    · rw [if_pos e, if_pos (by simpa using e)]
      exact .cons hd (DFk.repl hd b)
    · rw [if_neg e, if_neg (by simpa using e)]
      exact .cons a (DFk.repl hd b)
theorem DFk.append {K : PySem.W.Frag} {H : Hp} {F : Reg} : ∀ {ks js : List (Key × V)} {ds es : List (PyData × PyData)}, DFk K H F ks ds → DFk K H F js es → DFk K H F (ks ++ js) (ds ++ es)
  | _, _, _, _, .nil, h => h
  | _, _, _, _, .cons a b, h => .cons a (DFk.append b h)
theorem DFk.put {K : PySem.W.Frag} {H : Hp} {F : Reg} {k : Key} {v : V} {d : PyData} {ks : List (Key × V)} {ds : List (PyData × PyData)} (h : DFk K H F ks ds) (hd : DF K H F v d) : DFk K H F (putK ks k v) (putD ds (kD k) d) := by
  unfold putK putD
  rw [any_dfk k h]
  split
  · exact DFk.repl hd h
  · exact h.append (.cons hd .nil)
theorem DFt.append {K : PySem.W.Frag} {H : Hp} {F : Reg} : ∀ {ks js : List Ent} {ds es : List (PyData × PyData)}, DFt K H F ks ds → DFt K H F js es → DFt K H F (ks ++ js) (ds ++ es)
  | _, _, _, _, .nil, h => h
  | _, _, _, _, .cons q r a b, h => .cons q r a (DFt.append b h)
theorem DFk.length {K : PySem.W.Frag} {H : Hp} {F : Reg} : ∀ {ks : List (Key × V)} {ds : List (PyData × PyData)}, DFk K H F ks ds → ks.length = ds.length
  | _, _, .nil => rfl
  | _, _, .cons _ b => by rw [List.length_cons, List.length_cons, DFk.length b]
theorem DFt.length {K : PySem.W.Frag} {H : Hp} {F : Reg} : ∀ {ks : List Ent} {ds : List (PyData × PyData)}, DFt K H F ks ds → ks.length = ds.length
  | _, _, .nil => rfl
  | _, _, .cons _ _ _ b => by rw [List.length_cons, List.length_cons, DFt.length b]
end DL
namespace DL
open PySem PySem.Spec PyProof.Rows
open L2 hiding Sp
def iwM (g : PyData → Option (List PyData)) (f : EM) : IM := fun ρ => bindO (f ρ) fun r ρ1 => match frz ρ1 r with
  | some (d, ρ2) => okI (g d) ρ2
  | none => none
@[simp] theorem iwM_e (g : PyData → Option (List PyData)) (f : EM) (ρ : Rho) : iwM g f ρ = bindO (f ρ) fun r ρ1 => bindF (frz ρ1 r) fun d ρ2 => okI (g d) ρ2 := eqI rfl
end DL
namespace DL
open PySem PySem.Spec PyProof.Rows
open L2 hiding Sp
/-- what stays as the heap goes on -/
def Clo (G : Hp → Reg → Prop) : Prop := ∀ H F H' F', G H F → Kept F H H' → (∀ b, F b → F' b) → G H' F'
/-- amid a comprehension: the new list at D holds acc -/
def LcS (T : Tb) (H : Hp) (F : Reg) (O : Ows) (G : Hp → Reg → Prop) (D : Addr) (σ : L2.St) (ρ : Rho) (acc : List PyData) (H' : Hp) : Prop :=
  ∃ F' O' va, Ext false H F O H' F' O' ∧ EnvR T H' F' O' σ ρ ∧ H' D = some (.lst va) ∧ DFs T.K H' F' va acc ∧ ¬ F' D ∧ (∀ j, D ∉ O' j) ∧ G H' F'
section
variable {T : Tb} {H : Hp} {F : Reg} {O : Ows} {G : Hp → Reg → Prop} {D : Addr} {σ σ' : L2.St} {ρ ρ' : Rho} {acc : List PyData} {H' H'' : Hp}
theorem LcS.imp {G' : Hp → Reg → Prop} (s : LcS T H F O G D σ ρ acc H') (g : ∀ F', G H' F' → G' H' F') : LcS T H F O G' D σ ρ acc H' := by
  obtain ⟨F', O', va, x, E, hD, sa, nD, oD, gg⟩ := s
  exact ⟨F', O', va, x, E, hD, sa, nD, oD, g _ gg⟩
theorem LcS.grow (cl : Clo G) (s : LcS T H F O G D σ ρ acc H') (k : ∀ b o, H' b = some o → H'' b = some o) : LcS T H F O G D σ ρ acc H'' := by
  obtain ⟨F', O', va, x, E, hD, sa, nD, oD, gg⟩ := s
  have gr : Gr H' F' H'' F' := ⟨k, fun _ h => h, fun _ h => .inl h⟩
  exact ⟨F', O', va, x.trans gr.ext, E.gr gr, k _ _ hD, sa.mono (kept_all k) fun _ h => h, nD, oD, cl _ _ _ _ gg (kept_all k) fun _ h => h⟩
/-- slots are stored: some owners are forgotten -/
theorem LcS.sub (s : LcS T H F O G D σ ρ acc H') (k : ∀ F' O', EnvR T H' F' O' σ ρ → G H' F' → ∃ O2, EnvR T H' F' O2 σ' ρ' ∧ Sub O2 O') : LcS T H F O G D σ' ρ' acc H' := by
  obtain ⟨F', O', va, x, E, hD, sa, nD, oD, gg⟩ := s
  obtain ⟨O2, E2, s2⟩ := k _ _ E gg
  exact ⟨F', O2, va, ⟨x.keep, x.live, x.grow, x.new, fun j b e => x.own j b (s2 j b e)⟩, E2, hD, sa, nD, fun j z => oD j (s2 j D z), gg⟩
theorem LcS.wipe {vs : List Nat} (s : LcS T H F O G D σ ρ acc H') : LcS T H F O G D (wipe σ vs) (wipeR ρ vs) acc H' := s.sub fun F' O' E _ => let ⟨O2, E2, s2⟩ := E.wiped (vs := vs); ⟨O2, E2, s2⟩
theorem LcS.unwipe {vs : List Nat} (s : LcS T H F O G D (L2.wipe σ vs) ρ acc H') : LcS T H F O G D σ ρ acc H' := s.sub fun F' O' E _ => ⟨O', E.unwipe, fun _ _ h => h⟩
end
/-- the inner clause -/
def lcI (g : GM) (vs : List Nat) (c : Rho → Option (Oe Bool)) (f : EM) : List PyData → Rho → List PyData → Option (List PyData × Rho)
  | [], ρ, acc => some (acc, ρ)
  | x :: xs, ρ, acc => match g x ρ with
    | none => none
    | some ρ1 => bindN (c ρ1) fun b ρ2 => if b = true then bindN (f ρ2) fun r ρ3 => match frz ρ3 r with
        | some (d, ρ4) => if acc.length < lim then lcI g vs c f xs (wipeR ρ4 vs) (acc ++ [d]) else none
        | none => none
      else lcI g vs c f xs (wipeR ρ2 vs) acc
def lc2L (g : GM) (vs : List Nat) (c : Rho → Option (Oe Bool)) (it1 : IM) (g1 : GM) (vs1 : List Nat) (c1 : Rho → Option (Oe Bool)) (f : EM) : List PyData → Rho → List PyData → Option (Oe R)
  | [], ρ, acc => some (.ok (.own (.list acc)) ρ)
  | x :: xs, ρ, acc => match g x ρ with
    | none => none
    | some ρ1 => bindN (c ρ1) fun b ρ2 => if b = true then bindN (it1 ρ2) fun ds ρ3 => match lcI g1 vs1 c1 f ds (wipeR ρ3 vs1) acc with
        | some (acc', ρ4) => lc2L g vs c it1 g1 vs1 c1 f xs (wipeR ρ4 vs) acc'
        | none => none
      else lc2L g vs c it1 g1 vs1 c1 f xs (wipeR ρ2 vs) acc
def lc2M (it : IM) (g : GM) (vs : List Nat) (c : Rho → Option (Oe Bool)) (it1 : IM) (g1 : GM) (vs1 : List Nat) (c1 : Rho → Option (Oe Bool)) (f : EM) : EM := fun ρ => bindO (it ρ) fun ds ρ1 => lc2L g vs c it1 g1 vs1 c1 f ds (wipeR ρ1 vs) []
@[simp] theorem lc2M_e (it : IM) (g : GM) (vs : List Nat) (c : Rho → Option (Oe Bool)) (it1 : IM) (g1 : GM) (vs1 : List Nat) (c1 : Rho → Option (Oe Bool)) (f : EM) (ρ : Rho) : lc2M it g vs c it1 g1 vs1 c1 f ρ = bindO (it ρ) fun ds ρ1 => lc2L g vs c it1 g1 vs1 c1 f ds (wipeR ρ1 vs) [] := eqI rfl
end DL
namespace DL
open PySem PySem.Spec PyProof.Rows
open L2 hiding Sp
def isKDo : Option PyData → Bool
  | some (.dict ds) => isKD ds
  | _ => false
def getR (y z : R) (ρ : Rho) : Option PyData → Option (Oe R)
  | some (.dict ds) => match y, z with
    | .dat y, .dat z => if isKey y = true ∧ isKD ds = true then some (.ok (.dat ((atK ds y).getD z)) ρ) else none
    | _, _ => none
  | _ => none
def getM (f fk fd : EM) : EM := fun ρ => bindO (f ρ) fun r ρ1 => if isKDo (val ρ1 r) = true then bindO (fk ρ1) fun y ρ2 => bindO (fd ρ2) fun z ρ3 => getR y z ρ3 (val ρ3 r) else none
@[simp] theorem isKDo_e (ds : List (PyData × PyData)) : isKDo (some (.dict ds)) = isKD ds := eqI rfl
@[simp] theorem getM_e (f fk fd : EM) (ρ : Rho) : getM f fk fd ρ = bindO (f ρ) fun r ρ1 => pick (isKDo (val ρ1 r)) (fun ρ => bindO (fk ρ) fun y ρ2 => bindO (fd ρ2) fun z ρ3 => getR y z ρ3 (val ρ3 r)) (fun _ => none) ρ1 := eqI rfl
def lenKD : PyData → Option R
  | .dict ds => some (.dat (.int ds.length))
  | _ => none
@[simp] theorem lenKD_e (ds : List (PyData × PyData)) : lenKD (.dict ds) = some (.dat (.int ds.length)) := eqI rfl
end DL
namespace DL
open PySem PySem.Spec PyProof.Rows
open L2 hiding Sp
end DL
namespace DL
open PySem PySem.Spec PyProof.Rows
open L2 hiding Sp
end DL
namespace DL
open PySem PySem.Spec PyProof.Rows
open L2 hiding Sp
/-- sorted of a list or a tuple of ints -/
def sortTD : PyData → Option R
  | .tuple ds => (intsOf ds).map fun ns => .own (.list ((sortI ns).map PyData.int))
  | _ => none
@[simp] theorem sortTD_t (ns : List Int) : sortTD (.tuple (ns.map PyData.int)) = some (.own (.list ((sortI ns).map PyData.int))) := by
  show (intsOf _).map _ = _
  rw [intsOf_map]
  rfl
end DL
namespace DL
open PySem L2
/-- one of a new pair of two -/
def ix2M (k : Int) (f : EM) : EM := fun ρ => bindO (f ρ) fun r ρ1 => match r with
  | .two d e => if k = 0 then some (.ok (.own d) ρ1) else if k = 1 then some (.ok (.own e) ρ1) else none
  | _ => none
@[simp] theorem ix2M_e (k : Int) (f : EM) (ρ : Rho) : ix2M k f ρ = bindO (f ρ) fun r ρ1 => match r with
  | .two d e => if k = 0 then some (.ok (.own d) ρ1) else if k = 1 then some (.ok (.own e) ρ1) else none
  | _ => none := eqI rfl
end DL
namespace DL
open PySem PySem.Spec PyProof.Rows
open L2 hiding Sp
open PySem.W (alike alikeAll dataLt keyToks AllAlike Sortable dataLe KeyedOut EachIs)
end DL
namespace DL
open PySem PyProof.Rows
open L2 hiding Sp
end DL
namespace DL
open PySem PyProof.Rows
open L2 hiding Sp
/-- arguments in the order of the parameters, the defaults of those left out behind them -/
def prmA (pm : List Nat) (dds : List PyData) (fa : AM) : AM := fun ρ => bindO (fa ρ) fun rs ρ1 => if rs.length = pm.length then some (.ok (pm.filterMap (rs[·]?) ++ dds.map R.dat) ρ1) else none
@[simp] theorem prmA_e (pm : List Nat) (dds : List PyData) (fa : AM) (ρ : Rho) : prmA pm dds fa ρ = bindO (fa ρ) fun rs ρ1 => if rs.length = pm.length then some (.ok (pm.filterMap (rs[·]?) ++ dds.map R.dat) ρ1) else none := eqI rfl
section
variable {X : Cx} {T : Tb} {W : WX} {x : Str} {k n m i : Nat} {sem : Sem} {e : Expr} {es : List Expr} {kws : List Keyword} {fa : AM} {fe : EM} {p pos kpos : Pos} {ks : List Str} {pm : List Nat} {dds : List PyData} {N : List Str} {sc : Scope} {f : Addr}
/-- slot i holds one of these defs -/
def vfM (i : Nat) (sems : Nat → Option Sem) (fa : AM) : EM := fun ρ => match ρ[i]? with
  | some (some (.fn j)) => match sems j with
    | some sem => callM sem fa ρ
    | none => none
  | _ => none
end
@[simp] theorem vfM_e (i : Nat) (sems : Nat → Option Sem) (fa : AM) (ρ : Rho) : vfM i sems fa ρ = match ρ[i]? with
  | some (some (.fn j)) => (match sems j with | some sem => callM sem fa ρ | none => none)
  | _ => none := eqI rfl
def forF (i : Nat) (body : SM) : List Nat → SM
  | [], ρ => some (.nx ρ)
  | k :: ks, ρ => match body (ρ.set i (some (.fn k))) with
    | some (.nx ρ2) => forF i body ks ρ2
    | some (.ct ρ2) => forF i body ks ρ2
    | some (.bk ρ2) => some (.nx ρ2)
    | o => o
@[simp] theorem forF_nil (i : Nat) (body : SM) (ρ : Rho) : forF i body [] ρ = some (.nx ρ) := eqI rfl
end DL
namespace DL
open PySem L2
def insE (i : Nat) (k : Int) : Option (PyData × Rho) → Option Ot
  | some (d, ρ) => match ρ[i]? with
    | some (some (.own (.list ds))) => if ds.length < lim ∧ 0 ≤ k ∧ k < 4611686018427387904 then some (.nx (ρ.set i (some (.own (.list (ds.take k.toNat ++ [d] ++ ds.drop k.toNat)))))) else none
    | _ => none
  | none => none
def insR (i : Nat) (fb : EM) (r : R) (ρ : Rho) : Option Ot := match r with
  | .dat (.int k) => bindS (fb ρ) fun s ρ2 => insE i k (frz ρ2 s)
  | _ => none
/-- x.insert(k, e) -/
def insM (i : Nat) (fa fb : EM) : SM := fun ρ => if isList ρ[i]? = true then bindS (fa ρ) (insR i fb) else none
@[simp] theorem insM_e (i : Nat) (fa fb : EM) (ρ : Rho) : insM i fa fb ρ = pick (isList ρ[i]?) (fun ρ => bindS (fa ρ) (insR i fb)) (fun _ => none) ρ := by
  unfold insM pick
  cases isList ρ[i]? <;> rfl
@[simp] theorem insR_e (i : Nat) (fb : EM) (k : Int) (ρ : Rho) : insR i fb (.dat (.int k)) ρ = bindS (fb ρ) fun s ρ2 => insE i k (frz ρ2 s) := eqI rfl
end DL
namespace DL
open PySem PyProof.Rows
open L2 hiding Sp
/-- raise C(e1, e2) -/
def raise2R (c : Nat) (rs : List R) (ρ : Rho) : Option Ot := match rs with
  | [.dat (.int m), .dat (.int n)] => some (.er c [.int m, .int n] ρ)
  | _ => none
def raise2M (c : Nat) (fa : AM) : SM := fun ρ => bindS (fa ρ) (raise2R c)
@[simp] theorem raise2M_e (c : Nat) (fa : AM) (ρ : Rho) : raise2M c fa ρ = bindS (fa ρ) (raise2R c) := eqI rfl
@[simp] theorem raise2R_e (c : Nat) (m n : Int) (ρ : Rho) : raise2R c [.dat (.int m), .dat (.int n)] ρ = some (.er c [.int m, .int n] ρ) := eqI rfl
def isXR (tb : Nat → Option Bool) (r : R) (ρ : Rho) : Option (Oe R) := match r with
  | .ex c _ => match tb c with
    | some b => some (.ok (.dat (.bool b)) ρ)
    | none => none
  | _ => none
/-- isinstance(e, C) -/
def isXM (tb : Nat → Option Bool) (fe : EM) : EM := fun ρ => bindO (fe ρ) fun r ρ1 => isXR tb r ρ1
@[simp] theorem isXM_e (tb : Nat → Option Bool) (fe : EM) (ρ : Rho) : isXM tb fe ρ = bindO (fe ρ) fun r ρ1 => isXR tb r ρ1 := eqI rfl
section
variable {X : Cx} {T : Tb} {W : WX} {m : Nat} {N : List Str} {sc : Scope} {pos p : Pos} {e : Expr}
/-- e.many (true), e.most (false) -/
def fldR (tb : Nat → Bool) (f : Bool) (r : R) (ρ : Rho) : Option (Oe R) := match r with
  | .ex c [.int m, .int n] => if tb c = true then some (.ok (.dat (.int (if f = true then m else n))) ρ) else none
  | _ => none
def fldM (tb : Nat → Bool) (f : Bool) (fe : EM) : EM := fun ρ => bindO (fe ρ) fun r ρ1 => fldR tb f r ρ1
@[simp] theorem fldM_e (tb : Nat → Bool) (f : Bool) (fe : EM) (ρ : Rho) : fldM tb f fe ρ = bindO (fe ρ) fun r ρ1 => fldR tb f r ρ1 := eqI rfl
end
end DL
namespace DL
open PySem PyProof.Rows
open L2 hiding Sp
def signsD (x : Str) : List PyData := x.cps.toList.map fun c => .str ⟨#[c]⟩
def isM (f : EM) : IM := fun ρ => bindO (f ρ) fun r ρ1 => match r with
  | .dat (.str x) => some (.ok (signsD x) ρ1)
  | _ => none
def isR (r : R) (ρ : Rho) : Option (Oe (List PyData)) := match r with
  | .dat (.str x) => some (.ok (signsD x) ρ)
  | _ => none
@[simp] theorem isM_e (f : EM) (ρ : Rho) : isM f ρ = bindO (f ρ) isR := eqI rfl
@[simp] theorem isR_e (x : Str) (ρ : Rho) : isR (.dat (.str x)) ρ = some (.ok (signsD x) ρ) := eqI rfl
section
variable {X : Cx} {T : Tb} {W : WX} {tg e o : Expr} {f fo fe : EM} {pos p : Pos} {N : List Str} {sc : Scope} {n : Nat}
def dIc : PyData → PyData → Option R
  | .str x, .str z => match x.cps.toList with
    | [c] => some (.dat (.bool (decide (c ∈ z.cps.toList))))
    | _ => none
  | _, _ => none
@[simp] theorem dIc_e (c : Nat) (z : Str) : dIc (.str ⟨#[c]⟩) (.str z) = some (.dat (.bool (decide (c ∈ z.cps.toList)))) := eqI rfl
def dNic : PyData → PyData → Option R
  | .str x, .str z => match x.cps.toList with
    | [c] => some (.dat (.bool (!decide (c ∈ z.cps.toList))))
    | _ => none
  | _, _ => none
@[simp] theorem dNic_e (c : Nat) (z : Str) : dNic (.str ⟨#[c]⟩) (.str z) = some (.dat (.bool (!decide (c ∈ z.cps.toList)))) := eqI rfl
def intSD : PyData → Option R
  | .str a => if a.length ≤ 640 then (PySem.intText? a).map fun n => .dat (.int n) else none
  | _ => none
@[simp] theorem intSD_e (a : Str) : intSD (.str a) = if a.length ≤ 640 then (PySem.intText? a).map fun n => R.dat (.int n) else none := eqI rfl
def isSt : Option PyData → Bool
  | some (.str _) => true
  | _ => false
@[simp] theorem isSt_s (x : Str) : isSt (some (.str x)) = true := eqI rfl
def smM (g : PyData → PyData → Option R) (fo fe : EM) : EM := fun ρ => bindO (fo ρ) fun r ρ1 => pick (isSt (val ρ1 r)) (fun ρ1 => bindO (fe ρ1) fun s ρ2 => op2R g ρ2 (val ρ2 r) (val ρ2 s)) (fun _ => none) ρ1
@[simp] theorem smM_e (g : PyData → PyData → Option R) (fo fe : EM) (ρ : Rho) : smM g fo fe ρ = bindO (fo ρ) fun r ρ1 => pick (isSt (val ρ1 r)) (fun ρ1 => bindO (fe ρ1) fun s ρ2 => op2R g ρ2 (val ρ2 r) (val ρ2 s)) (fun _ => none) ρ1 := eqI rfl
/-- x.split(sep) -/
def splD : PyData → PyData → Option R
  | .str a, .str b => if (b.length == 0) = false ∧ a.length ≤ lim then some (.own (.list ((Txt.split a b).map .str))) else none
  | _, _ => none
@[simp] theorem splD_e (a b : Str) : splD (.str a) (.str b) = if (b.length == 0) = false ∧ a.length ≤ lim then some (R.own (.list ((Txt.split a b).map .str))) else none := eqI rfl
/-- x.partition(sep) -/
def prtD : PyData → PyData → Option R
  | .str a, .str b => if (b.length == 0) = false ∧ a.length ≤ lim then some (.dat (.tuple [.str (Txt.partition a b).1, .str (Txt.partition a b).2.1, .str (Txt.partition a b).2.2])) else none
  | _, _ => none
@[simp] theorem prtD_e (a b : Str) : prtD (.str a) (.str b) = if (b.length == 0) = false ∧ a.length ≤ lim then some (R.dat (.tuple [.str (Txt.partition a b).1, .str (Txt.partition a b).2.1, .str (Txt.partition a b).2.2])) else none := eqI rfl
end
/-- a number's text -/
def nS (i : Int) : Str := Str.ofString (toString i)
def fmtD : Option PyData → Option Str
  | some (.str y) => if y.length ≤ lim then some y else none
  | some (.int i) => if i.natAbs.log2 < 1920 then some (toString i) else none
  | _ => none
@[simp] theorem fmtD_s (y : Str) : fmtD (some (.str y)) = if y.length ≤ lim then some y else none := eqI rfl
@[simp] theorem fmtD_i (i : Int) : fmtD (some (.int i)) = if i.natAbs.log2 < 1920 then some (nS i) else none := eqI rfl
def fsA (acc : Str) (o : Option Str) (g : Str → Option (Oe R)) : Option (Oe R) := match o with
  | some y => if (acc ++ y).length ≤ lim then g (acc ++ y) else none
  | none => none
@[simp] theorem fsA_s (acc y : Str) (g : Str → Option (Oe R)) : fsA acc (some y) g = if (acc ++ y).length ≤ lim then g (acc ++ y) else none := eqI rfl
def fsL : List EM → Str → EM
  | [], acc, ρ => some (.ok (.dat (.str acc)) ρ)
  | f :: fs, acc, ρ => bindO (f ρ) fun r ρ1 => fsA acc (fmtD (val ρ1 r)) fun a => fsL fs a ρ1
@[simp] theorem fsL_nil (acc : Str) (ρ : Rho) : fsL [] acc ρ = some (.ok (.dat (.str acc)) ρ) := eqI rfl
@[simp] theorem fsL_cons (f : EM) (fs : List EM) (acc : Str) (ρ : Rho) : fsL (f :: fs) acc ρ = bindO (f ρ) fun r ρ1 => fsA acc (fmtD (val ρ1 r)) fun a => fsL fs a ρ1 := eqI rfl
def fsM (fs : List EM) : EM := fsL fs Str.empty
@[simp] theorem fsM_e (fs : List EM) (ρ : Rho) : fsM fs ρ = fsL fs Str.empty ρ := eqI rfl
section
variable {X : Cx} {T : Tb} {W : WX} {N : List Str} {sc : Scope} {n : Nat} {e : Expr} {f : AM} {p pos : Pos}
@[simp] theorem strD_e (i : Int) : strD (.int i) = if i.natAbs.log2 < 1920 then some (R.dat (.str (nS i))) else none := eqI rfl
end
end DL
namespace DL
open PySem PyProof.Rows
open L2 hiding Sp
/-- a text turned about -/
def revS (x : Str) : Str := ⟨((Builtin.Str.strSliceIndices none none (-1) x.length).filterMap (x.cps[·]?)).toArray⟩
def revSD : PyData → Option R
  | .str x => if (revS x).length ≤ lim then some (.dat (.str (revS x))) else none
  | _ => none
@[simp] theorem revSD_e (x : Str) : revSD (.str x) = if (revS x).length ≤ lim then some (R.dat (.str (revS x))) else none := eqI rfl
section
variable {X : Cx} {T : Tb} {W : WX} {e o : Expr} {f fo fe : EM} {pos apos : Pos}
/-- x.count(y) -/
def cntSD : PyData → PyData → Option R
  | .str a, .str b => some (.dat (.int (Txt.count a b)))
  | _, _ => none
@[simp] theorem cntSD_e (a b : Str) : cntSD (.str a) (.str b) = some (R.dat (.int (Txt.count a b))) := eqI rfl
/-- x.strip(y) -/
def stripSD : PyData → PyData → Option R
  | .str a, .str b => if a.length ≤ lim then some (.dat (.str (Txt.stripChars a b))) else none
  | _, _ => none
@[simp] theorem stripSD_e (a b : Str) : stripSD (.str a) (.str b) = if a.length ≤ lim then some (R.dat (.str (Txt.stripChars a b))) else none := eqI rfl
end
def gtLM (gs : GsM) : GM := fun d ρ => match d with
  | .tuple ds => gs ds ρ
  | .list ds => gs ds ρ
  | _ => none
@[simp] theorem gtLM_t (gs : GsM) (ds : List PyData) (ρ : Rho) : gtLM gs (.tuple ds) ρ = gs ds ρ := eqI rfl
@[simp] theorem gtLM_l (gs : GsM) (ds : List PyData) (ρ : Rho) : gtLM gs (.list ds) ρ = gs ds ρ := eqI rfl
end DL
namespace DL
open PySem PyProof.Rows
open L2 hiding Sp
end DL
namespace DL
open PySem PyProof.Rows
open L2 hiding Sp
def isLed : Option (Option R) → Bool
  | some (some (.obj (.led _ _))) => true
  | _ => false
def isDsk : Option (Option R) → Bool
  | some (some (.obj (.dsk _ _))) => true
  | _ => false
/-- the class of ledgers (b) or of desks -/
def Tb.cl (T : Tb) (b : Bool) : Addr := if b = true then T.lc else T.dc
/-- a method of an own class: its name, its place, its promise; dds: the defaults that are left out -/
structure FnM (P : Program) (w : World) (mg : Str → Option Value) (base : Heap) (T : Tb) (b : Bool) (x : Str) (k n : Nat) (sem : Sem) (dds : List PyData) : Prop where
  cl : Cls T.K (T.cl b)
  ex : ∃ f fd ps dus dvs, Meth T.K (T.cl b) x f ∧ Binds T.K fd ps dus ∧ ps.length = n ∧ FnG P w T.K mg base k f fd ps (spOf T n sem) ∧ Vals dvs dus ∧ ∀ H F, DFs T.K H F dvs dds
def isOb (b : Bool) (x : Option (Option R)) : Bool := if b = true then isLed x else isDsk x
/-- o.m(e, ..): o's method m where o is a slot's object -/
def metM (b : Bool) (i : Nat) (sem : Sem) (dds : List PyData) (fa : AM) : EM := fun ρ => if isOb b ρ[i]? = true then callM sem (appA (consA (nmM i) fa) dds) ρ else none
end DL
namespace DL
open PySem PyProof.Rows
open L2 hiding Sp
/-- o.tellings, o.stood, o a slot's ledger -/
def prtM (i k : Nat) : EM := fun ρ => if isLed ρ[i]? = true then some (.ok (.prt i k) ρ) else none
def addP (k : Nat) (d : PyData) (ts ss : List PyData) : OD := if k = 0 then .led (ts ++ [d]) ss else .led ts (ss ++ [d])
def appPR (i k : Nat) (d : PyData) (ρ : Rho) : Option (Option R) → Option Ot
  | some (some (.obj (.led ts ss))) => if (if k = 0 then ts else ss).length < lim then some (.nx (ρ.set i (some (.obj (addP k d ts ss))))) else none
  | _ => none
/-- o.tellings.append(e) -/
def appPM (i k : Nat) (fe : EM) : SM := fun ρ => if isLed ρ[i]? = true then bindS (fe ρ) fun r ρ1 => match frz ρ1 r with
    | some (d, ρ2) => appPR i k d ρ2 ρ2[i]?
    | none => none
  else none
def cutP (k : Nat) (ts ss : List PyData) : OD := if k = 0 then .led ts.dropLast ss else .led ts ss.dropLast
def popPR (i k : Nat) (ρ : Rho) : Option (Option R) → Option (Oe R)
  | some (some (.obj (.led ts ss))) => match (if k = 0 then ts else ss).getLast? with
    | some d => some (.ok (.dat d) (ρ.set i (some (.obj (cutP k ts ss)))))
    | none => none
  | _ => none
/-- o.tellings.pop() -/
def popPM (i k : Nat) : EM := fun ρ => popPR i k ρ ρ[i]?
section
variable {T : Tb} {H : Hp} {F : Reg} {O : Ows} {σ : L2.St} {ρ : Rho}
/-- a ledger in a slot, with its lists -/
theorem led_at (E : EnvR T H F O σ ρ) {i : Nat} {ts ss : List PyData} (h : ρ[i]? = some (some (.obj (.led ts ss)))) : ∃ a dx t s vs us, σ[i]? = some (some (.ref a)) ∧ O i = [t, s] ∧ t ≠ s ∧ H a = some (.ins T.lc dx (ledF t s)) ∧ H t = some (.lst vs) ∧ DFs T.K H F vs ts ∧ H s = some (.lst us) ∧ DFs T.K H F us ss := by
  obtain ⟨v, h1, a, dx, t, s, rfl, h2, h3, h4, ⟨vs, h5, h6⟩, us, h7, h8⟩ := E.at_ i _ h
  exact ⟨a, dx, t, s, vs, us, h1, h2, h3, h4, h5, h6, h7, h8⟩
end
end DL
namespace DL
open PySem PyProof.Rows
open L2 hiding Sp
end DL
namespace DL
open PySem PyProof.Rows
open L2 hiding Sp
def newLM : EM := fun ρ => some (.ok (.obj (.led [] [.dict []])) ρ)
def newDM : EM := fun ρ => some (.ok (.obj (.dsk [] [.dict []])) ρ)
def twR (ρ : Rho) : Option (Option R) → Option (Oe R)
  | some (some (.obj (.led ts ss))) => some (.ok (.obj (.led ts ss)) ρ)
  | _ => none
/-- o.twin() -/
def twM (i : Nat) : EM := fun ρ => twR ρ ρ[i]?
@[simp] theorem newLM_e (ρ : Rho) : newLM ρ = some (.ok (.obj (.led [] [.dict []])) ρ) := eqI rfl
@[simp] theorem newDM_e (ρ : Rho) : newDM ρ = some (.ok (.obj (.dsk [] [.dict []])) ρ) := eqI rfl
@[simp] theorem twM_e (i : Nat) (ρ : Rho) : twM i ρ = twR ρ ρ[i]? := eqI rfl
@[simp] theorem twR_e (ts ss : List PyData) (ρ : Rho) : twR ρ (some (some (.obj (.led ts ss)))) = some (.ok (.obj (.led ts ss)) ρ) := eqI rfl
@[simp] theorem isOb_l (ts ss : List PyData) : isOb true (some (some (.obj (.led ts ss)))) = true := eqI rfl
@[simp] theorem isOb_d (ts ss : List PyData) : isOb false (some (some (.obj (.dsk ts ss)))) = true := eqI rfl
@[simp] theorem isLed_l (ts ss : List PyData) : isLed (some (some (.obj (.led ts ss)))) = true := eqI rfl
@[simp] theorem metM_e (b : Bool) (i : Nat) (sem : Sem) (dds : List PyData) (fa : AM) (ρ : Rho) : metM b i sem dds fa ρ = pick (isOb b ρ[i]?) (callM sem (appA (consA (nmM i) fa) dds)) (fun _ => none) ρ := by
  unfold metM pick
  split <;> rfl
@[simp] theorem prtM_e (i k : Nat) (ρ : Rho) : prtM i k ρ = pick (isLed ρ[i]?) (fun ρ => some (.ok (.prt i k) ρ)) (fun _ => none) ρ := by
  unfold prtM pick
  split <;> rfl
@[simp] theorem appPM_e (i k : Nat) (fe : EM) (ρ : Rho) : appPM i k fe ρ = pick (isLed ρ[i]?) (fun ρ => bindS (fe ρ) fun r ρ1 => bindF (frz ρ1 r) fun d ρ2 => appPR i k d ρ2 ρ2[i]?) (fun _ => none) ρ := eqI rfl
@[simp] theorem appPR_0 (i : Nat) (d : PyData) (ρ : Rho) (ts ss : List PyData) : appPR i 0 d ρ (some (some (.obj (.led ts ss)))) = if ts.length < lim then some (.nx (ρ.set i (some (.obj (.led (ts ++ [d]) ss))))) else none := eqI rfl
@[simp] theorem appPR_1 (i : Nat) (d : PyData) (ρ : Rho) (ts ss : List PyData) : appPR i 1 d ρ (some (some (.obj (.led ts ss)))) = if ss.length < lim then some (.nx (ρ.set i (some (.obj (.led ts (ss ++ [d])))))) else none := eqI rfl
@[simp] theorem popPM_e (i k : Nat) (ρ : Rho) : popPM i k ρ = popPR i k ρ ρ[i]? := eqI rfl
end DL
namespace DL
open PySem PyProof.Rows
open L2 hiding Sp
def dropD (ds : List (PyData × PyData)) (y : PyData) : List (PyData × PyData) := ds.filter fun p => !keq p.1 y
def popKR (i : Nat) (y : Option PyData) (ρ : Rho) : Option (Option R) → Option (Oe R)
  | some (some (.own (.dict ds))) => match y with
    | some y => if isKey y = true ∧ isKD ds = true then match atK ds y with
        | some d => some (.ok (.dat d) (ρ.set i (some (.own (.dict (dropD ds y))))))
        | none => none else none
    | none => none
  | _ => none
def isDK : Option (Option R) → Bool
  | some (some (.own (.dict ds))) => isKD ds
  | _ => false
def popKM (i : Nat) (fe : EM) : EM := fun ρ => if isDK ρ[i]? = true then bindO (fe ρ) fun r ρ1 => popKR i (val ρ1 r) ρ1 ρ1[i]? else none
theorem DFk.drop {K : PySem.W.Frag} {H : Hp} {F : Reg} (k : Key) : ∀ {ks : List (Key × V)} {ds : List (PyData × PyData)}, DFk K H F ks ds → DFk K H F (dropK ks k) (dropD ds (kD k))
  | _, _, .nil => .nil
  | _, _, .cons (k := j) (v := v) (d := d) (vs := vs) (ds := ds) a b => by
    unfold dropK dropD
    have e : keq (kD j) (kD k) = decide (j = k) := keq_kD j k
    by_cases h : j = k
    · rw [List.filter_cons_of_neg (by simpa using h), List.filter_cons_of_neg (p := fun p : PyData × PyData => !keq p.1 (kD k)) (a := (kD j, d)) (show ¬ (!keq (kD j) (kD k)) = true by rw [e, decide_eq_true h]; exact Bool.false_ne_true)]
      exact DFk.drop k b
    · rw [List.filter_cons_of_pos (by simpa using h), List.filter_cons_of_pos (p := fun p : PyData × PyData => !keq p.1 (kD k)) (a := (kD j, d)) (show (!keq (kD j) (kD k)) = true by rw [e, decide_eq_false h]; rfl)]
      exact .cons a (DFk.drop k b)
@[simp] theorem isDK_e (ds : List (PyData × PyData)) : isDK (some (some (.own (.dict ds)))) = isKD ds := eqI rfl
@[simp] theorem popKM_e (i : Nat) (fe : EM) (ρ : Rho) : popKM i fe ρ = pick (isDK ρ[i]?) (fun ρ => bindO (fe ρ) fun r ρ1 => popKR i (val ρ1 r) ρ1 ρ1[i]?) (fun _ => none) ρ := eqI rfl
def mgD (ds : List (PyData × PyData)) : List (PyData × PyData) := ds.foldl (fun acc p => putD acc p.1 p.2) []
theorem DFk.fold {K : PySem.W.Frag} {H : Hp} {F : Reg} : ∀ {ks js : List (Key × V)} {ds es : List (PyData × PyData)}, DFk K H F ks ds → DFk K H F js es → DFk K H F (ks.foldl (fun acc kv => putK acc kv.1 kv.2) js) (ds.foldl (fun acc p => putD acc p.1 p.2) es)
  | _, _, _, _, .nil, h => h
  | _, _, _, _, .cons a b, h => by
    rw [List.foldl_cons, List.foldl_cons]
    exact DFk.fold b (h.put a)
theorem DFk.mg {K : PySem.W.Frag} {H : Hp} {F : Reg} {ks : List (Key × V)} {ds : List (PyData × PyData)} (h : DFk K H F ks ds) : DFk K H F (mergeK [] ks) (mgD ds) := DFk.fold h .nil
end DL
namespace DL
open PySem PyProof.Rows
open L2 hiding Sp
def callRM (sem : Sem) (rs : List R) (ρ : Rho) : Option (Oe R) := if dist rs = true then match passA ρ rs with
    | some args => match sem args with
      | some (.ok r os) => some (.ok r (backA ρ rs os))
      | some (.er c fs os) => some (.er c fs (backA ρ rs os))
      | none => none
    | none => none
  else none
@[simp] theorem callRM_e (sem : Sem) (rs : List R) (ρ : Rho) : callRM sem rs ρ = pick (dist rs) (fun ρ => bindP (passA ρ rs) fun as => bkO (sem as) ρ rs) (fun _ => none) ρ := by
  unfold callRM pick bindP bkO
  rfl
end DL
namespace DL
open PySem PyProof.Rows
open L2 hiding Sp
section
variable {X : Cx} {T : Tb} {W : WX} {k n nn : Nat} {sem : Sem} {C : Addr} {f : Addr} {fd : FuncData} {ps : List Str} {sp : L2.Sp}
def lenOR : Option (Oe R) → Option (Oe R)
  | some (.ok (.dat (.int n)) ρ) => if (decide (0 ≤ n) && inW n) = true then some (.ok (.dat (.int n)) ρ) else none
  | _ => none
def lenOM (i : Nat) (sem : Sem) : EM := fun ρ => if isLed ρ[i]? = true then lenOR (callRM sem [.slt i] ρ) else none
def strOR : Option (Oe R) → Option (Oe R)
  | some (.ok (.dat (.str n)) ρ) => some (.ok (.dat (.str n)) ρ)
  | _ => none
def reprOM (i : Nat) (sem : Sem) : EM := fun ρ => if isLed ρ[i]? = true then strOR (callRM sem [.slt i] ρ) else none
def boolOR (neg : Bool) : Option (Oe R) → Option (Oe R)
  | some (.ok (.dat (.bool b)) ρ) => some (.ok (.dat (.bool (if neg = true then !b else b))) ρ)
  | _ => none
def isLR (ρ : Rho) : R → Bool
  | .slt i => isLed ρ[i]?
  | .obj (.led _ _) => true
  | _ => false
def eqOM (neg : Bool) (sem : Sem) (fa fb : EM) : EM := fun ρ => bindO (fa ρ) fun r ρ1 => bindO (fb ρ1) fun s ρ2 => if (isLR ρ2 r && isLR ρ2 s) = true then boolOR neg (callRM sem [r, s] ρ2) else none
variable {N : List Str} {sc : Scope} {o : Expr} {p pos : Pos} {i : Nat} {a b : Expr} {fa fb : EM}
theorem FnM.plain {P : Program} {w : World} {mg : Str → Option Value} {base : Heap} {b : Bool} {x : Str} (h : FnM P w mg base T b x k n sem []) : ∃ f fd ps, Meth T.K (T.cl b) x f ∧ Binds T.K fd ps [] ∧ ps.length = n ∧ FnG P w T.K mg base k f fd ps (spOf T n sem) := by
  obtain ⟨_, f, fd, ps, dus, dvs, h1, h2, h3, h4, h5, h6⟩ := h
  have e := h6 (fun _ => none) fun _ => False
  cases e
  cases h5
  exact ⟨f, fd, ps, h1, h2, h3, h4⟩
end
@[simp] theorem lenOM_e (i : Nat) (sem : Sem) (ρ : Rho) : lenOM i sem ρ = pick (isLed ρ[i]?) (fun ρ => lenOR (callRM sem [.slt i] ρ)) (fun _ => none) ρ := by
  unfold lenOM pick
  split <;> rfl
@[simp] theorem reprOM_e (i : Nat) (sem : Sem) (ρ : Rho) : reprOM i sem ρ = pick (isLed ρ[i]?) (fun ρ => strOR (callRM sem [.slt i] ρ)) (fun _ => none) ρ := by
  unfold reprOM pick
  split <;> rfl
@[simp] theorem strOR_e (n : Str) (ρ : Rho) : strOR (some (.ok (.dat (.str n)) ρ)) = some (.ok (.dat (.str n)) ρ) := eqI rfl
@[simp] theorem boolOR_t (b : Bool) (ρ : Rho) : boolOR true (some (.ok (.dat (.bool b)) ρ)) = some (.ok (.dat (.bool (!b))) ρ) := eqI rfl
@[simp] theorem boolOR_f (b : Bool) (ρ : Rho) : boolOR false (some (.ok (.dat (.bool b)) ρ)) = some (.ok (.dat (.bool b)) ρ) := eqI rfl
@[simp] theorem isLR_s (ρ : Rho) (i : Nat) : isLR ρ (.slt i) = isLed ρ[i]? := eqI rfl
@[simp] theorem isLR_o (ρ : Rho) (ts ss : List PyData) : isLR ρ (.obj (.led ts ss)) = true := eqI rfl
@[simp] theorem eqOM_e (neg : Bool) (sem : Sem) (fa fb : EM) (ρ : Rho) : eqOM neg sem fa fb ρ = bindO (fa ρ) fun r ρ1 => bindO (fb ρ1) fun s ρ2 => pick (isLR ρ2 r && isLR ρ2 s) (fun ρ => boolOR neg (callRM sem [r, s] ρ)) (fun _ => none) ρ2 := by
  rfl
end DL
namespace DL
open PySem PyProof.Rows
open L2 hiding Sp
def isLM (i : Nat) : EM := fun ρ => if isLed ρ[i]? = true then some (.ok (.dat (.bool true)) ρ) else none
@[simp] theorem isLM_e (i : Nat) (ρ : Rho) : isLM i ρ = pick (isLed ρ[i]?) (fun ρ => some (.ok (.dat (.bool true)) ρ)) (fun _ => none) ρ := by
  unfold isLM pick
  split <;> rfl
section
variable {X : Cx} {T : Tb} {W : WX} {N : List Str} {sc : Scope} {n k nn : Nat} {o e : Expr} {es : List Expr} {i : Nat} {p p2 pos apos : Pos} {f fa : AM} {fo : EM} {m : Str} {sem : Sem}
def closeR (i : Nat) : Option (Oe R) → Option (Oe R)
  | some (.ok r ρ) => match ρ[i]? with
    | some (some (.obj (.led ts ss))) => some (.ok r (ρ.set i (some (.obj (.dsk ts ss)))))
    | _ => none
  | some (.er c fs ρ) => match ρ[i]? with
    | some (some (.obj (.led ts ss))) => some (.er c fs (ρ.set i (some (.obj (.dsk ts ss)))))
    | _ => none
  | none => none
def keptR (i : Nat) (sem : Sem) (rs : List R) (ρ : Rho) : Option (Oe R) := match ρ[i]? with
  | some (some (.obj (.dsk ts ss))) => closeR i (callRM sem (.slt i :: rs) (ρ.set i (some (.obj (.led ts ss)))))
  | _ => none
def metKM (i : Nat) (sem : Sem) (dds : List PyData) (fa : AM) : EM := fun ρ => if isDsk ρ[i]? = true then bindO (appA fa dds ρ) (keptR i sem) else none
end
end DL
namespace DL
open PySem PyProof.Rows
open L2 hiding Sp
/-- x, y = e, e a new pair of a ledger and a list -/
def asgPM (i j : Nat) (fe : EM) : SM := fun ρ => bindS (fe ρ) fun r ρ1 => match r with
  | .obj (.pr ts ss ds) => some (.nx ((ρ1.set i (some (.obj (.led ts ss)))).set j (some (.own (.list ds)))))
  | _ => none
@[simp] theorem asgPM_e (i j : Nat) (fe : EM) (ρ : Rho) : asgPM i j fe ρ = bindS (fe ρ) fun r ρ1 => match r with
  | .obj (.pr ts ss ds) => some (.nx ((ρ1.set i (some (.obj (.led ts ss)))).set j (some (.own (.list ds)))))
  | _ => none := eqI rfl
end DL
namespace DL
open PySem PyProof.Rows
open L2 hiding Sp
def isHole : Option (Option R) → Bool
  | some none => true
  | _ => false
def hid (i : Nat) (O : Ows) : Ows := fun j => if j = i then [] else O j
theorem hid_sub {i : Nat} {O : Ows} : Sub (hid i O) O := fun j a e => by
  unfold hid at e
  split at e
  · cases e
  · exact e
theorem hid_ne {i j : Nat} {a : Addr} {O : Ows} (e : a ∈ hid i O j) : j ≠ i := by
  unfold hid at e
  split at e
  · cases e
  · assumption
section
variable {X : Cx} {T : Tb} {W : WX} {φ : Fm} {σ : L2.St} {H : Hp} {ρ : Rho} {F : Reg} {O : Ows} {i : Nat}
theorem EnvR.hide (E : EnvR T H F O σ ρ) (i : Nat) : EnvR T H F (hid i O) σ (ρ.set i none) := by
  refine ⟨by rw [List.length_set]; exact E.len, fun j r e => ?_, fun j a e => ?_, fun j k a e1 e2 => E.inj j k a (hid_sub j a e1) (hid_sub k a e2), fun j a e => E.nf j a (hid_sub j a e), E.lv, E.tb⟩
  · by_cases h : j = i
    · subst h
      by_cases hl : j < ρ.length
      · rw [List.getElem?_set_self hl] at e; cases e
      · rw [List.getElem?_eq_none (by rw [List.length_set]; omega)] at e; cases e
    · rw [List.getElem?_set_ne (fun z => h z.symm)] at e
      unfold hid
      rw [if_neg h]
      exact E.at_ j r e
  · have h := hid_ne e
    obtain ⟨r, hr⟩ := E.own j a (hid_sub j a e)
    exact ⟨r, by rw [List.getElem?_set_ne (fun z => h z.symm)]; exact hr⟩
/-- and taken back -/
theorem EnvR.show {H' : Hp} {F' : Reg} {O' : Ows} {σ' : L2.St} {ρ' : Rho} {ts ss : List PyData} (E : EnvR T H F O σ ρ) (h : ρ[i]? = some (some (.obj (.led ts ss)))) (x : Ext true H F (hid i O) H' F' O') (E' : EnvR T H' F' O' σ' ρ') (ho : isHole ρ'[i]? = true) (hs : σ'[i]? = σ[i]?) :
    ∃ O2, EnvR T H' F' O2 σ' (ρ'.set i (some (.obj (.led ts ss)))) ∧ Ext true H F O H' F' O2 ∧ ∀ j a, a ∈ O2 j → a ∈ O j ∨ a ∈ O' j := by
  obtain ⟨a, dx, t, s, vs, us, h1, h2, h3, h4, h5, h6, h7, h8⟩ := led_at E h
  have kp : Kept F H H' := (E.hide i).kept x
  have gF := x.grow
  have hl : i < ρ'.length := by
    by_cases hl : i < ρ'.length
    · exact hl
    · rw [List.getElem?_eq_none (by omega)] at ho; cases ho
  have none_i : ∀ b, b ∉ O' i := fun b e => by
    obtain ⟨r, hr⟩ := E'.own i b e
    rw [hr] at ho
    cases ho
  have own_i : ∀ b, b ∈ O i → ∀ j, b ∉ hid i O j := fun b e j e2 => hid_ne e2 (E.inj j i b (hid_sub j b e2) e)
  have kept_i : ∀ b o, b ∈ O i → H b = some o → NT o → H' b = some o := fun b o e hb n => x.keep b o hb (own_i b e) n
  have mt : t ∈ O i := by rw [h2]; simp
  have ms : s ∈ O i := by rw [h2]; simp
  have no_j : ∀ b, b ∈ O i → H b ≠ none → ∀ j, b ∉ O' j := fun b e hb j e2 => by
    rcases x.own j b e2 with z | ⟨_, ⟨j', z⟩ | z⟩
    · exact own_i b e j z
    · exact own_i b e j' z
    · exact hb z
  have live_i : ∀ b, b ∈ O i → H b ≠ none := fun b e => by
    rw [h2] at e
    rcases List.mem_cons.mp e with rfl | e
    · rw [h5]; exact Option.some_ne_none _
    · rw [List.mem_singleton] at e; subst e; rw [h7]; exact Option.some_ne_none _
  let O2 : Ows := fun j => if j = i then O i else O' j
  have o2 : ∀ j b, b ∈ O2 j → (j = i ∧ b ∈ O i) ∨ (j ≠ i ∧ b ∈ O' j) := fun j b e => by
    by_cases hj : j = i
    · have e' : b ∈ (if j = i then O i else O' j) := e
      rw [if_pos hj] at e'
      exact .inl ⟨hj, e'⟩
    · have e' : b ∈ (if j = i then O i else O' j) := e
      rw [if_neg hj] at e'
      exact .inr ⟨hj, e'⟩
  refine ⟨O2, ⟨by rw [List.length_set]; exact E'.len, fun j r e => ?_, fun j b e => ?_, fun j k b e1 e2 => ?_, fun j b e => ?_, E'.lv, E'.tb⟩, ⟨fun b o hb n z => x.keep b o hb (fun j e => n j (hid_sub j b e)) z, x.live, x.grow, fun b hb => (x.new b hb).imp_right fun z => z.imp_left fun ⟨j, e⟩ => ⟨j, hid_sub j b e⟩, fun j b e => ?_⟩, fun j b e => ?_⟩
  · by_cases hj : j = i
    · subst hj
      rw [List.getElem?_set_self hl] at e
      cases e
      refine ⟨.ref a, by rw [hs]; exact h1, ?_⟩
      show ObjAt T H' F' (if j = j then O j else O' j) (.ref a) (.led ts ss)
      rw [if_pos rfl]
      have ha : H' a = some (.ins T.lc dx (ledF t s)) := kp a _ h4 (.inr trivial)
      exact ⟨a, dx, t, s, rfl, h2, h3, ha, ⟨vs, kept_i t _ mt h5 trivial, h6.mono kp gF⟩, us, kept_i s _ ms h7 trivial, h8.mono kp gF⟩
    · rw [List.getElem?_set_ne (fun z => hj z.symm)] at e
      show ∃ v, _ ∧ SlotR T H' F' (if j = i then O i else O' j) v r
      rw [if_neg hj]
      exact E'.at_ j r e
  · rcases o2 j b e with ⟨rfl, _⟩ | ⟨hj, e'⟩
    · exact ⟨_, List.getElem?_set_self hl⟩
    · obtain ⟨r, hr⟩ := E'.own j b e'
      exact ⟨r, by rw [List.getElem?_set_ne (fun z => hj z.symm)]; exact hr⟩
  · rcases o2 j b e1 with ⟨rfl, z1⟩ | ⟨hj, z1⟩ <;> rcases o2 k b e2 with ⟨rfl, z2⟩ | ⟨hk, z2⟩
    · rfl
    · exact absurd z2 (no_j b z1 (live_i b z1) k)
    · exact absurd z1 (no_j b z2 (live_i b z2) j)
    · exact E'.inj j k b z1 z2
  · rcases o2 j b e with ⟨rfl, z⟩ | ⟨hj, z⟩
    · intro hf
      rcases x.new b hf with q | ⟨j', q⟩ | q
      · exact E.nf j b z q
      · exact own_i b z j' q
      · exact live_i b z q
    · exact E'.nf j b z
  · rcases o2 j b e with ⟨rfl, z⟩ | ⟨hj, z⟩
    · exact .inl z
    · exact (x.own j b z).imp (fun q => hid_sub j b q) fun ⟨q1, q2⟩ => ⟨q1, q2.imp_left fun ⟨j', q⟩ => ⟨j', hid_sub j' b q⟩⟩
  · rcases o2 j b e with ⟨rfl, z⟩ | ⟨hj, z⟩
    · exact .inl z
    · exact .inr z
end
@[simp] theorem isHole_n : isHole (some none) = true := eqI rfl
end DL
namespace DL
open PySem PyProof.Rows
open L2 hiding Sp
end DL
namespace DL
namespace KT
open PySem PySem.Spec PySem.Calls PyProof.V PyProof.Rows PyProof.Rows.KTD
section
variable {prog : Program} {w : World} {A : Around} {E : Value → Shared → Prop} {s : Shared} {a : Addr} {δ : Type} {R : δ → Value → Prop} {D : List (Str × δ)} {k : Str} {tk : Tok}
theorem typeIs (T : TabOf R s.heap a D) : s.TypeIs (.ref a) "dict" := let ⟨_, o, _, _, ho, hc, _⟩ := T; ⟨o, ho, hc.1⟩
theorem get_ {Q : Option Value → Shared → Prop} (T : TabOf R s.heap a D) (h1 : ∀ d v, datumAt k D = some d → R d v → Q (some v) { s with toks := s.toks + 1 }) (h2 : datumAt k D = none → Q none { s with toks := s.toks + 1 }) :
    wpAny (model prog w) A (dictGet a (.str k tk)) Q E s := by
  obtain ⟨_, o, es, ep, ho, hc, hd, hr⟩ := T
  unfold dictGet
  try with_reducible refine wpAny_holding ?_
  refine wpAny_bind (wpAny_pyHash_str (wpAny_bind (kt_dictFind_strs (s := { s with toks := s.toks + 1 }) ho hd (by obtain ⟨l⟩ := es; simpa using hr.exact) ?_)))
  have hq : Q (findBy (fun k v => v.isStr k) es k) { s with toks := s.toks + 1 } := by
    have hf : findBy (fun k v => v.isStr k) es k = (es.toList.find? fun e => e.key.isStr k).map (·.val) := by
      obtain ⟨l⟩ := es
      simp [findBy]
    rw [hf]
    cases hat : datumAt k D with
    | some d => obtain ⟨v, hv, hfl⟩ := hr.find_some hat; rw [hv]; exact h1 d v hat hfl
    | none => rw [hr.find_none hat]; exact h2 hat
  rw [findBy_of_findIdx?] at hq
  cases hi : es.findIdx? fun e => e.key.isStr k with
  | none => rw [hi] at hq; exact wpAny_pure hq
  | some i => rw [hi] at hq; exact wpAny_bind (wpAny_dictEntries (s := { s with toks := s.toks + 1 }) ho hd (wpAny_pure hq))
theorem item {Q : Value → Shared → Prop} (T : TabOf R s.heap a D) {d : δ} (hd : datumAt k D = some d) (h : ∀ v, R d v → Q v { s with toks := s.toks + 1 }) : wpAny (model prog w) A (getItem (.ref a) (.str k tk)) Q E s := by
  unfold getItem
  try with_reducible refine wpAny_holding ?_
  refine wpAny_bind (wpAny_sequenceKey (typeIs T) (by decide) ?_)
  refine wpAny_bind (wpAny_callSpecial?_slot (name := Str.ofString "__getitem__") (typeIs T) slot_dict_getitem
    (wpAny_call_entry slot_dict_getitem (typeIs T) entry_dict_getitem ?_ (args_dict_getitem _ _)))
  show wpAny _ _ (dictGet a (.str k tk) >>= _) _ _ s
  exact wpAny_bind (get_ T (fun d' v ha hv => wpAny_pure ⟨v, rfl, wpAny_pure (h v (by rw [hd] at ha; cases ha; exact hv))⟩) fun hn => by rw [hd] at hn; cases hn)
end
end KT
open PySem PyProof.Rows
open L2 hiding Sp
open PyProof.Rows.KTD (datumAt)
/-- what it holds, as data -/
inductive CR (K : PySem.W.Frag) : List (Str × V) → List (Str × PyData) → Prop where
  | nil : CR K [] []
  | cons {x : Str} {v : V} {d : PyData} {D : List (Str × V)} {C : List (Str × PyData)} : (∀ H F, DF K H F v d) → CR K D C → CR K ((x, v) :: D) ((x, d) :: C)
theorem CR.at_ {K : PySem.W.Frag} (k : Str) : ∀ {D : List (Str × V)} {C : List (Str × PyData)}, CR K D C → (datumAt k D = none ∧ datumAt k C = none) ∨ ∃ v d, datumAt k D = some v ∧ datumAt k C = some d ∧ ∀ H F, DF K H F v d
  | _, _, .nil => .inl ⟨rfl, rfl⟩
  | _, _, .cons (x := x) (v := v) (d := d) (D := D) (C := C) a b => by
    have ih := b.at_ k
    unfold datumAt
    by_cases h : decide (k = x) = true
    · rw [if_pos h, if_pos h]; exact .inr ⟨v, d, rfl, rfl, a⟩
    · rw [if_neg h, if_neg h]; exact ih
def inCR (neg : Bool) (C : List (Str × PyData)) (ρ : Rho) : Option PyData → Option (Oe R)
  | some (.str k) => some (.ok (.dat (.bool (if neg = true then !(datumAt k C).isSome else (datumAt k C).isSome))) ρ)
  | _ => none
def inCM (neg : Bool) (C : List (Str × PyData)) (fe : EM) : EM := fun ρ => bindO (fe ρ) fun r ρ1 => inCR neg C ρ1 (val ρ1 r)
def ixCR (C : List (Str × PyData)) (ρ : Rho) : Option PyData → Option (Oe R)
  | some (.str k) => (datumAt k C).map fun d => .ok (.dat d) ρ
  | _ => none
def ixCM (C : List (Str × PyData)) (fe : EM) : EM := fun ρ => bindO (fe ρ) fun r ρ1 => ixCR C ρ1 (val ρ1 r)
@[simp] theorem inCM_e (neg : Bool) (C : List (Str × PyData)) (fe : EM) (ρ : Rho) : inCM neg C fe ρ = bindO (fe ρ) fun r ρ1 => inCR neg C ρ1 (val ρ1 r) := eqI rfl
@[simp] theorem inCR_e (neg : Bool) (C : List (Str × PyData)) (k : Str) (ρ : Rho) : inCR neg C ρ (some (.str k)) = some (.ok (.dat (.bool (if neg = true then !(datumAt k C).isSome else (datumAt k C).isSome))) ρ) := eqI rfl
@[simp] theorem ixCM_e (C : List (Str × PyData)) (fe : EM) (ρ : Rho) : ixCM C fe ρ = bindO (fe ρ) fun r ρ1 => ixCR C ρ1 (val ρ1 r) := eqI rfl
@[simp] theorem ixCR_e (C : List (Str × PyData)) (k : Str) (ρ : Rho) : ixCR C ρ (some (.str k)) = (datumAt k C).map fun d => .ok (.dat d) ρ := eqI rfl
end DL
namespace DL
open PySem PyProof.Rows
open L2 hiding Sp
/-- x, *y = e -/
def starR (i j : Nat) (ρ : Rho) : Option PyData → Option Ot
  | some (.list (x :: xs)) => if xs.length ≤ 16000 then some (.nx ((ρ.set i (some (.dat x))).set j (some (.own (.list xs))))) else none
  | _ => none
def asgStM (i j : Nat) (fe : EM) : SM := fun ρ => bindS (fe ρ) fun r ρ1 => starR i j ρ1 (val ρ1 r)
@[simp] theorem asgStM_e (i j : Nat) (fe : EM) (ρ : Rho) : asgStM i j fe ρ = bindS (fe ρ) fun r ρ1 => starR i j ρ1 (val ρ1 r) := eqI rfl
end DL
namespace DL
open PySem PyProof.Rows
open L2 hiding Sp
/-- a heap in which all is new -/
def HN : Hp := fun _ => none
section
variable {T : Tb} {B H : Hp} {FB F : Reg} {OB O : Ows} {σ : L2.St} {ρ : Rho} {L : Nat → List Addr}
/-- L: the places of the objects among the arguments: new ones, or a slot's of before -/
def TmpOk2 (T : Tb) (B : Hp) (OB : Ows) (H : Hp) (F : Reg) (O : Ows) (L : Nat → List Addr) (vs : List V) (rs : List R) : Prop :=
  ∀ k v o, vs[k]? = some v → rs[k]? = some (.obj o) → (∀ b, b ∈ L k → (B b = none ∨ ∃ i, b ∈ OB i) ∧ ¬ F b ∧ ∀ i, b ∉ O i) ∧ ObjAt T H F (L k) v o
theorem TmpOk2.one {vs : List V} {rs : List R} (h : TmpOk2 T B OB H F O L vs rs) : TmpOk T HN H F O L vs rs := fun k v o h1 h2 => ⟨fun b hb => ⟨rfl, ((h k v o h1 h2).1 b hb).2⟩, (h k v o h1 h2).2⟩
end
abbrev LSt := Option (List PyData × List PyData)
inductive AK where
  | nm (i : Nat)
  | ci (i : Int)
  | cb (b : Bool)
def AK.r (ρ : Rho) : AK → Option R
  | .nm i => match ρ[i]? with
    | some (some (.dat d)) => some (.dat d)
    | some (some (.own _)) => some (.slt i)
    | some (some (.obj _)) => some (.slt i)
    | _ => none
  | .ci i => some (.dat (.int i))
  | .cb b => some (.dat (.bool b))
def tAs : List TE → TA
  | [] => tNil
  | t :: ts => tCons t (tAs ts)
section
variable {T : Tb} {W : WX} {B H : Hp} {FB F : Reg} {OB O : Ows} {σ : L2.St} {ρ ρ1 : Rho}
/-- slots' objects: where they stand -/
inductive Pk (σ : L2.St) (O : Ows) : List Nat → List V → List (List Addr) → Prop where
  | nil : Pk σ O [] [] []
  | cons {n : Nat} {u : V} {L : List Addr} {ns : List Nat} {us : List V} {Ls : List (List Addr)} : σ[n]? = some (some u) → (∀ b, b ∈ L → b ∈ O n) → Pk σ O ns us Ls → Pk σ O (n :: ns) (u :: us) (L :: Ls)
theorem Pk.mono {O' : Ows} (h : ∀ i b, b ∈ O i → b ∈ O' i) : ∀ {ns : List Nat} {us : List V} {Ls : List (List Addr)}, Pk σ O ns us Ls → Pk σ O' ns us Ls
  | _, _, _, .nil => .nil
  | _, _, _, .cons a b c => .cons a (fun x hx => h _ x (b x hx)) (c.mono h)
theorem Pk.len : ∀ {ns : List Nat} {us : List V} {Ls : List (List Addr)}, Pk σ O ns us Ls → us.length = ns.length
  | _, _, _, .nil => rfl
  | _, _, _, .cons _ _ c => by rw [List.length_cons, List.length_cons, c.len]
theorem Pk.names : ∀ {ns : List Nat} {us : List V} {Ls : List (List Addr)}, Pk σ O ns us Ls → ∀ Q : List V → Hp → Prop, Q us H → tAs (ns.map tVar) σ H Q
  | _, _, _, .nil, Q, q => q
  | _, _, _, .cons a b c, Q, q => ⟨_, a, c.names _ q⟩
end
section
variable {T : Tb} {H : Hp} {F : Reg}
/-- one is taken out -/
theorem ManyAt.out {b : Bool} : ∀ {Ls : List (List Addr)} {vs : List V} {xs : List LSt} {k : Nat} {ts ss : List PyData}, ManyAt T H F b Ls vs xs → xs[k]? = some (some (ts, ss)) → ∃ L v, vs[k]? = some v ∧ OneAt T H F b L v ts ss ∧ ManyAt T H F b (Ls.set k []) vs (xs.set k none) ∧ List.Perm Ls.flatten (L ++ (Ls.set k []).flatten)
  | _, _, _, k, _, _, .nil, h => by simp at h
  | _, _, _, 0, _, _, .hole q, h => by simp at h
  | _, _, _, k + 1, _, _, .hole q, h => by
    obtain ⟨L, v, h1, h2, h3, h4⟩ := q.out (k := k) (by simpa using h)
    exact ⟨L, v, by simpa using h1, h2, .hole h3, by simpa using h4⟩
  | _, _, _, 0, _, _, .cons (L := L) (v := v) q r, h => by
    simp only [List.getElem?_cons_zero, Option.some.injEq, Prod.mk.injEq] at h
    obtain ⟨rfl, rfl⟩ := h
    exact ⟨L, v, rfl, q, .hole r, by simp⟩
  | _, _, _, k + 1, _, _, .cons (L := L0) q r, h => by
    obtain ⟨L, v, h1, h2, h3, h4⟩ := r.out (k := k) (by simpa using h)
    refine ⟨L, v, by simpa using h1, h2, .cons q h3, ?_⟩
    rw [List.set_cons_succ, List.flatten_cons, List.flatten_cons]
    refine (List.Perm.append_left L0 h4).trans ?_
    rw [← List.append_assoc, ← List.append_assoc]
    exact List.Perm.append_right _ List.perm_append_comm
end
end DL
namespace DL
open PySem PyProof.Rows
open L2 hiding Sp
def parM4 (i j l m : Nat) (fa fb fc fd : EM) : SM := fun ρ => bindS (fa ρ) fun r ρ1 => match sv ρ1 r with
  | some (r', ρ2) => bindS (fb ρ2) fun s ρ3 => match sv ρ3 s with
    | some (s', ρ4) => bindS (fc ρ4) fun t ρ5 => match sv ρ5 t with
      | some (t', ρ6) => bindS (fd ρ6) fun u ρ7 => match sv ρ7 u with
        | some (u', ρ8) => some (.nx ((((ρ8.set i (some r')).set j (some s')).set l (some t')).set m (some u')))
        | none => none
      | none => none
    | none => none
  | none => none
@[simp] theorem parM4_e (i j l m : Nat) (fa fb fc fd : EM) (ρ : Rho) : parM4 i j l m fa fb fc fd ρ = bindS (fa ρ) fun r ρ1 => match sv ρ1 r with
  | some (r', ρ2) => bindS (fb ρ2) fun s ρ3 => match sv ρ3 s with
    | some (s', ρ4) => bindS (fc ρ4) fun t ρ5 => match sv ρ5 t with
      | some (t', ρ6) => bindS (fd ρ6) fun u ρ7 => match sv ρ7 u with
        | some (u', ρ8) => some (.nx ((((ρ8.set i (some r')).set j (some s')).set l (some t')).set m (some u')))
        | none => none
      | none => none
    | none => none
  | none => none := eqI rfl
def appTR (fe : EM) (ρ : Rho) : R → Option Ot
  | .own (.list ds) => if ds.length < lim then bindS (fe ρ) fun _ ρ2 => some (.nx ρ2) else none
  | _ => none
def appTM (fo fe : EM) : SM := fun ρ => bindS (fo ρ) fun r ρ1 => appTR fe ρ1 r
def clrTR (ρ : Rho) : R → Option Ot
  | .own (.list _) => some (.nx ρ)
  | _ => none
def clrTM (fo : EM) : SM := fun ρ => bindS (fo ρ) fun r ρ1 => clrTR ρ1 r
section
variable {X : Cx} {T : Tb} {W : WX} {φ : Fm} {fo fe : EM} {pos : Pos} {ex : Expr}
theorem StR.other {H : Hp} {F : Reg} {O : Ows} {σ : L2.St} {ρ : Rho} {a : Addr} {vs us : List V} (S : StR T φ H F O σ ρ) (h : H a = some (.lst vs)) (nf : ¬ F a) (no : ∀ i, a ∉ O i) : StR T φ (upd H a (.lst us)) F O σ ρ := by
  obtain ⟨E, _⟩ := S.E.other (o' := .lst us) h (fun z => z) nf no
  refine ⟨E, fun b hb => S.lb b ?_, S.lf⟩
  by_cases e : b = a
  · subst e; rw [upd_same] at hb; cases hb
  · rw [upd_ne e] at hb; exact hb
theorem ext_other {s : Bool} {B H : Hp} {FB F : Reg} {OB O : Ows} {a : Addr} {o : HO} (x : Ext s B FB OB H F O) (h : B a = none) : Ext s B FB OB (upd H a o) F O :=
  ⟨fun b u hb n z => by rw [upd_ne (show b ≠ a from fun e => by rw [e, h] at hb; cases hb)]; exact x.keep b u hb n z, fun b hb => by
    by_cases e : b = a
    · subst e; exact h
    · rw [upd_ne e] at hb; exact x.live b hb, x.grow, x.new, x.own⟩
end
@[simp] theorem appTM_e (fo fe : EM) (ρ : Rho) : appTM fo fe ρ = bindS (fo ρ) fun r ρ1 => appTR fe ρ1 r := eqI rfl
@[simp] theorem clrTM_e (fo : EM) (ρ : Rho) : clrTM fo ρ = bindS (fo ρ) fun r ρ1 => clrTR ρ1 r := eqI rfl
@[simp] theorem clrTR_is (ρ : Rho) (ds : List PyData) : clrTR ρ (.own (.list ds)) = some (.nx ρ) := eqI rfl
end DL
namespace DL
open PySem PyProof.Rows
open L2 hiding Sp
def orSR (fb : EM) (ρ : Rho) : Option PyData → Option (Oe R)
  | some (.str x) => if x.length ≤ lim then (if x.length = 0 then fb ρ else some (.ok (.dat (.str x)) ρ)) else none
  | _ => none
def orSM (fa fb : EM) : EM := fun ρ => bindO (fa ρ) fun r ρ1 => orSR fb ρ1 (val ρ1 r)
@[simp] theorem orSM_e (fa fb : EM) (ρ : Rho) : orSM fa fb ρ = bindO (fa ρ) fun r ρ1 => orSR fb ρ1 (val ρ1 r) := eqI rfl
end DL
namespace DL
open PySem PyProof.Rows
open L2 hiding Sp
def keptQ (i : Nat) (sem : Sem) (rs : List R) (ρ : Rho) : Option (Option R) → Option (Oe R)
  | some (some (.obj (.dsk ts ss))) => closeR i (callRM sem (.slt i :: rs) (ρ.set i (some (.obj (.led ts ss)))))
  | _ => none
def closeQ (i : Nat) (r : R) (ρ : Rho) : Option (Option R) → Option (Oe R)
  | some (some (.obj (.led ts ss))) => some (.ok r (ρ.set i (some (.obj (.dsk ts ss)))))
  | _ => none
def closeE (i c : Nat) (fs : List PyData) (ρ : Rho) : Option (Option R) → Option (Oe R)
  | some (some (.obj (.led ts ss))) => some (.er c fs (ρ.set i (some (.obj (.dsk ts ss)))))
  | _ => none
@[simp] theorem isDsk_d (ts ss : List PyData) : isDsk (some (some (.obj (.dsk ts ss)))) = true := eqI rfl
@[simp] theorem metKM_e (i : Nat) (sem : Sem) (dds : List PyData) (fa : AM) (ρ : Rho) : metKM i sem dds fa ρ = pick (isDsk ρ[i]?) (fun ρ => bindO (appA fa dds ρ) (keptR i sem)) (fun _ => none) ρ := by
  unfold metKM pick
  split <;> rfl
@[simp] theorem keptR_e (i : Nat) (sem : Sem) (rs : List R) (ρ : Rho) : keptR i sem rs ρ = keptQ i sem rs ρ ρ[i]? := by
  unfold keptR keptQ
  rfl
@[simp] theorem keptQ_e (i : Nat) (sem : Sem) (rs : List R) (ρ : Rho) (ts ss : List PyData) : keptQ i sem rs ρ (some (some (.obj (.dsk ts ss)))) = closeR i (callRM sem (.slt i :: rs) (ρ.set i (some (.obj (.led ts ss))))) := eqI rfl
@[simp] theorem closeR_ok (i : Nat) (r : R) (ρ : Rho) : closeR i (some (.ok r ρ)) = closeQ i r ρ ρ[i]? := by
  unfold closeR closeQ
  rfl
@[simp] theorem closeR_er (i c : Nat) (fs : List PyData) (ρ : Rho) : closeR i (some (.er c fs ρ)) = closeE i c fs ρ ρ[i]? := by
  unfold closeR closeE
  rfl
@[simp] theorem closeQ_e (i : Nat) (r : R) (ρ : Rho) (ts ss : List PyData) : closeQ i r ρ (some (some (.obj (.led ts ss)))) = some (.ok r (ρ.set i (some (.obj (.dsk ts ss))))) := eqI rfl
@[simp] theorem closeE_e (i c : Nat) (fs : List PyData) (ρ : Rho) (ts ss : List PyData) : closeE i c fs ρ (some (some (.obj (.led ts ss)))) = some (.er c fs (ρ.set i (some (.obj (.dsk ts ss))))) := eqI rfl
end DL
namespace DL
open PySem PyProof.Rows
open L2 hiding Sp
def strB : PyData → Option R
  | .int i => if i.natAbs.log2 < 1920 then some (.dat (.str (toString i))) else none
  | .str x => some (.dat (.str x))
  | _ => none
@[simp] theorem strB_i (i : Int) : strB (.int i) = if i.natAbs.log2 < 1920 then some (R.dat (.str (nS i))) else none := eqI rfl
@[simp] theorem strB_s (x : Str) : strB (.str x) = some (R.dat (.str x)) := eqI rfl
end DL
namespace DL
open PySem PySem.Spec PyProof.Rows L2 He
section
variable {fa : ChX} {fn : List DfX} {K : PySem.W.Frag}
theorem SaysX.fact (c : SaysX fa fn K) (i j : Nat) {l : List (PySem.W.Frag → Bool)} {f : PySem.W.Frag → Bool} (h : fa[i]? = some l := by rfl) (h2 : l[j]? = some f := by rfl) : f K = true := by
  have c1 := (ba (show ((fa.all fun l => l.all fun f => f K) && fn.all fun d => d.ok K) = true from congrArg (fun z => z.1) c.e)).1
  exact List.all_eq_true.mp (List.all_eq_true.mp c1 l (List.mem_of_getElem? h)) f (List.mem_of_getElem? h2)
theorem SaysX.def_ (c : SaysX fa fn K) (i : Nat) {d : DfX} {dv cd : Value} (h : fn[i]? = some d) (hd : dvX K (fAd K d.at_) = dv) (hc : cdX K (fAd K d.at_) = cd) :
    (∃ oc od osl kV doc pm an ct, K.lookup (fAd K d.at_) = some ⟨oc, od, .func (PySem.W.fnOf d.name d.qual d.params d.body d.scope dv kV doc pm an cd ct), osl⟩) ∧ PySem.W.keepIn K (.ref (fAd K d.at_)) = true ∧ PySem.W.codeIn K cd d.qual = true := by
  have c2 := (ba (show ((fa.all fun l => l.all fun f => f K) && fn.all fun d => d.ok K) = true from congrArg (fun z => z.1) c.e)).2
  have e : fn.map (fun d => fnW K d.at_) = fn.map DfX.val := congrArg (fun z => z.2) c.e
  have e2 : (fn.map fun d => fnW K d.at_)[i]? = (fn.map DfX.val)[i]? := by rw [e]
  rw [List.getElem?_map, List.getElem?_map, h] at e2
  subst hd hc
  exact ⟨DfX.fn (Option.some.inj e2), ba (List.all_eq_true.mp c2 d (List.mem_of_getElem? h))⟩
end
/-- the goal that a small head leaves -/
theorem walk_x {l : PySem.W.OpenLaw} {n k m : Nat} {q : Program} {loose : List Str} {XP : (Str → Option Value) → Heap → Prop} {d : DefRec} {x : Str} {fa : ChX} {fn : List DfX} {tf : List (Str × Option Str)} (hn : l.most = some n) (hn2 : n ≤ lim) (hdf : d.params.defaults = []) (hr : Room k callerA) (him : importsNone q = true)
    (F : ∀ (w : World) (mg : Str → Option Value) (fa' : Addr) (h : Heap) (K : PySem.W.Frag), K.In h → h.Ns mainGlobals mg → mg d.name = some (.ref fa') → SaysX fa fn K →
      Walked (tbX K tf) l.prog w K mg fa' x k fun sem => ∀ ns : List Int, ns.length ≤ n → ∃ os, sem [.dat (.list (ns.map .int))] = some (.ok (.dat (.bool true)) os)) :
    PySem.W.WalkO q loose XP (hookX m fa fn tf).says l.row.toRowW d [] (fun f vs => PySem.call f vs) := by
  refine Att.attach_call hn hdf ?_
  intro w s0 s1 mg mb fa' o pm cd doc a vs ns G Y ho hd hcd hmg hobj hints hlen hg
  obtain ⟨K, kx, cx, ky⟩ := Y
  obtain ⟨fd, T, sem, tn, e1, e2, hb, ⟨ht, htb⟩, hF, hS⟩ := F w mg fa' _ K kx G.T.g hmg cx
  rw [← e1] at kx
  obtain ⟨mm, hm, _⟩ := (G.T.seer him).mods
  have tc : TabsAt T.K s1.heap mg tn := ⟨fun p hp => ky _ (ht p hp).2.1, fun p hp => (ht p hp).2.2, fun p hp => PySem.W.codeHd_of_K kx (ht p hp).1, G.T.bmain⟩
  exact law_g kx G.T.g G.T.b G.T.builtins G.T.nolimit ⟨mm, hm⟩ hg hobj hints (Nat.le_trans hlen hn2) hr tc htb hF hb (hS ns hlen)
end DL
namespace DL
open PySem PyProof.Rows
open L2 hiding Sp
section
variable {X : Cx} {pins : List (Addr × Obj)} {σ : L2.St} {H : Hp} {s : Shared}
/-- a lambda is made: what was tracked grew -/
theorem lam_mk2 {L : List (Addr × Str)} {c P : Addr} {q : Str} {params : Arguments} {body : Expr} {scope : Scope} {pos : Pos} {E : Value → Shared → Prop} {Q : Value → Shared → Prop} (I : Inv X pins σ H s) (tb : LamX.TabB X.base X.mg c P) (hcd : X.env.code = .ref c) (hq : X.env.qual ++ "<lambda>" = q)
    (hm : (P, q) ∈ L) (hu : ∀ p ∈ L, p.1 = P → p.2 = q) (tabs : LamX.Tabs L H) (hd : defaultsOf params X.env = ([], [])) (hfr : ∀ y ∈ scope.names, y.2 = .free → ∃ c, X.env.cells.lookup y.1 = some c)
    (k : ∀ (f c' : Addr) (pm ctv : Value) (H1 : Hp) (s' : Shared), Inv X pins σ H1 s' → Grew H H1 → LamX.Tabs L H1 → s'.heap.get? f = some (PySem.W.kla_obj "<lambda>" q params body scope (cloFrom X.env.cells scope.names []) pm c' ctv) → H1 f = none → f ∉ frs X.stack → H1 c' = some (LamX.CodeO c' q) → s.heap.objs.size ≤ f → Q (.ref f) s') :
    wpAny (model X.prog X.w) X.A (eval (.Lambda params body scope pos) X.env) Q E s := by
  subst hq
  have tP := tabs _ hm
  obtain ⟨us, eP, t3, codes⟩ := tP
  have bP := tb.bm.keeps I.bk
  have gP : s.heap.get? P = some { cls := .none, data := .fields us } := I.hok P _ eP
  have out : ∀ f, s.heap.objs.size ≤ f → f ∉ frs X.stack := fun f hf z => by
    cases List.mem_cons.mp (I.stkSub _ z) with
    | inl e => exact absurd I.lt (by rw [← e]; exact Nat.not_lt_of_le hf)
    | inr e => exact I.nofs hf e
  refine PySem.W.kla_eval hd ?_
  cases hit : codeAmong pos us.toList with
  | some cv =>
    obtain ⟨c1, rfl, hc1⟩ := codes pos cv hit
    refine PySem.W.kla_makeFunctionHit (closure_ok hfr) I.ok.glob (I.mod.glob.keeps I.bk) hcd (tb.code.keeps I.bk) gP t3 hit bP ?_
    intro ctv h1 tk kp sz
    exact k _ c1 _ ctv H _ (I.kept fun b o e => Heap.get?_push_of_some _ (kp b o e)) .refl tabs (Heap.get?_push_size _ rfl) (I.hok.fresh sz) (out _ sz) hc1 sz
  | none =>
    refine PySem.W.kla_makeFunction (closure_ok hfr) I.ok.glob (I.mod.glob.keeps I.bk) hcd (tb.code.keeps I.bk) gP t3 hit tb.gP bP ?_
    intro c1 ctv h1 tk xb ge lt rec tab
    obtain ⟨_, oc, vs, t, e0, g1, g2, g3⟩ := rec
    cases e0
    have sz : s.heap.objs.size ≤ h1.objs.size := Nat.le_trans ge (Nat.le_of_lt lt)
    have n1 : H c1 = none := I.hok.fresh ge
    let fo : Obj := PySem.W.kla_obj "<lambda>" (X.env.qual ++ "<lambda>") params body scope (cloFrom X.env.cells scope.names []) ((X.mg "__name__").getD .none) c1 ctv
    have J := LamX.inv_table (q := X.env.qual ++ "<lambda>") (t' := tk) (more := #[rawInt pos.line, rawInt pos.col, .ref c1]) (h' := h1.push fo) I eP (fun b o hb e => Heap.get?_push_of_some fo (xb b o hb e)) (Heap.get?_push_of_some fo tab) ge ⟨oc, vs, t, Heap.get?_push_of_some fo g1, g2, g3⟩
    generalize hH1 : upd (upd H P (.tbl (us ++ #[rawInt pos.line, rawInt pos.col, .ref c1]))) c1 (LamX.CodeO c1 (X.env.qual ++ "<lambda>")) = H1 at J
    have PneC : P ≠ c1 := ne_of_none eP n1
    have at1 : H1 c1 = some (LamX.CodeO c1 (X.env.qual ++ "<lambda>")) := by rw [← hH1, upd_same]
    have atP : H1 P = some (.tbl (us ++ #[rawInt pos.line, rawInt pos.col, .ref c1])) := by rw [← hH1, upd_ne PneC, upd_same]
    have oth : ∀ b, b ≠ P → b ≠ c1 → H1 b = H b := fun b h2 h3 => by rw [← hH1, upd_ne h3, upd_ne h2]
    have kp : ∀ b o, H b = some o → NT o → H1 b = some o := fun b o e n => by
      rw [oth b (fun z => by rw [z, eP] at e; cases e; exact n) (ne_of_none e n1)]
      exact e
    have lv : ∀ b, H1 b = none → H b = none := fun b e => by
      by_cases h2 : b = P
      · rw [h2, atP] at e; cases e
      · by_cases h3 : b = c1
        · rw [h3]; exact n1
        · rw [← oth b h2 h3]; exact e
    have cn : ∀ c0 q0, NT (LamX.CodeO c0 q0) := fun _ _ => trivial
    have el : (us ++ #[rawInt pos.line, rawInt pos.col, Value.ref c1]).toList = us.toList ++ [rawInt pos.line, rawInt pos.col, .ref c1] := by simp
    refine k h1.objs.size c1 _ ctv H1 _ J ⟨kp, lv⟩ (fun p hp => ?_) (Heap.get?_push_size _ rfl) ?_ (out _ sz) at1 sz
    · by_cases hb : p.1 = P
      · refine ⟨_, by rw [hb]; exact atP, by rw [el]; exact PySem.TriplesOk_snoc _ _ _ _ t3, fun pos' cv hc => ?_⟩
        rw [el] at hc
        rw [hu p hp hb]
        cases LamX.among_app _ t3 hc with
        | inl z =>
          obtain ⟨c2, e1, e2⟩ := codes pos' cv z
          exact ⟨c2, e1, kp _ _ e2 (cn _ _)⟩
        | inr z => exact ⟨c1, z, at1⟩
      · obtain ⟨us', a1, a2, a3⟩ := tabs p hp
        refine ⟨us', by rw [oth _ hb (ne_of_none a1 n1)]; exact a1, a2, fun pos' cv hc => ?_⟩
        obtain ⟨c2, e1, e2⟩ := a3 pos' cv hc
        exact ⟨c2, e1, kp _ _ e2 (cn _ _)⟩
    · have sP : P < s.heap.objs.size := Heap.lt_size gP
      rw [oth _ (Nat.ne_of_gt (Nat.lt_of_lt_of_le sP sz)) (Nat.ne_of_gt lt)]
      exact I.hok.fresh sz
end
end DL
namespace DL
open PySem PyProof.Rows
open L2 hiding Sp
def endO (ρ : Rho) : Option (Oe R) → Option (Oe R)
  | some (.ok (.dat d) _) => some (.ok (.dat d) ρ)
  | _ => none
def callOR (sem : Sem) (fb : EM) (ρ : Rho) : R → Option (Oe R)
  | .own (.list p) => bindO (fb ρ) fun s ρ2 => match s with
    | .dat d => endO ρ2 (sem [.own (.list p), .dat d])
    | _ => none
  | _ => none
def callOM (sem : Sem) (fa fb : EM) : EM := fun ρ => bindO (fa ρ) fun r ρ1 => callOR sem fb ρ1 r
@[simp] theorem callOM_e (sem : Sem) (fa fb : EM) (ρ : Rho) : callOM sem fa fb ρ = bindO (fa ρ) fun r ρ1 => callOR sem fb ρ1 r := eqI rfl
@[simp] theorem endO_ok (d : PyData) (ρ os : Rho) : endO ρ (some (.ok (.dat d) os)) = some (.ok (.dat d) ρ) := eqI rfl
end DL
namespace DL
open PySem PyProof.Rows
open L2 hiding Sp
theorem hok_new {P : Program} {w : World} {H : Hp} {h : Heap} {a : Addr} {o : HO} (x : HOk P w H h) (hn : H a = none) (new : ObjOk P w (upd H a o) h a o) : HOk P w (upd H a o) h := fun b u e => by
  by_cases hb : b = a
  · subst hb
    rw [upd_same] at e
    cases e
    exact new
  · rw [upd_ne hb] at e
    exact (x b u e).stay (fun _ _ _ q => q) (fun c q => by rw [upd_ne (ne_of_none q hn)]; exact q) fun c xs q => by rw [upd_ne (ne_of_none q hn)]; exact q
/-- a function object known to the object -/
def FnO (a : Addr) (o : Obj) : HO := .ext fun h => h.get? a = some o
section
variable {X : Cx} {pins : List (Addr × Obj)} {σ : L2.St} {H : Hp} {s : Shared}
/-- an object made since the entry is looked at -/
theorem seen_inv {f : Addr} {o : HO} (I : Inv X pins σ H s) (hn : H f = none) (hs : X.s_0.heap.objs.size ≤ f) (hl : f ≠ X.env.locals) (hc : ∀ x c, X.env.cells.lookup x = some c → c ≠ f) (hp : ∀ p ∈ X.pn ++ pins, p.1 ≠ f) (ok : ObjOk X.prog X.w (upd H f o) s.heap f o) : Inv X pins σ (upd H f o) s := by
  have ne : ∀ b u, X.s_0.heap.get? b = some u → b ≠ f := fun b u e z => by
    have := Heap.lt_size e
    rw [z] at this
    exact absurd this (Nat.not_lt_of_le hs)
  have nu : ∀ b u, H b = some u → upd H f o b = some u := fun b u e => kept_new hn b u e
  refine ⟨I.ok, I.os, I.bare, ⟨I.base.keep, I.base.slot, fun b u e n hx => ?_, I.base.there, fun b xs e => nu b _ (I.base.tups b xs e), fun b u xs e => nu b _ (I.base.frzs b u xs e), fun b ps e => ?_⟩, I.loc, I.cell, ?_, fun x c e => ?_, fun p hp' => ?_, hok_new I.hok hn ok, I.len⟩
  · rw [upd_ne (ne b u e)]
    exact I.base.free b u e n hx
  · obtain ⟨m, e1⟩ := I.base.tbls b ps e
    exact ⟨m, nu b _ e1⟩
  · rw [upd_ne (Ne.symm hl)]
    exact I.free
  · rw [upd_ne (hc x c e)]
    exact I.freeC x c e
  · obtain ⟨h1, h2, h3⟩ := I.pin p hp'
    exact ⟨h1, by rw [upd_ne (hp p hp')]; exact h2, h3⟩
/-- the lambda's object -/
abbrev lamO (X : Cx) (q : Str) (params : Arguments) (body : Expr) (scope : Scope) (pm : Value) (c' : Addr) (ctv : Value) : Obj := PySem.W.kla_obj "<lambda>" q params body scope (cloFrom X.env.cells scope.names []) pm c' ctv
/-- lambda: e -/
theorem pe_lam {L : List (Addr × Str)} {c P : Addr} {q : Str} {params : Arguments} {body : Expr} {scope : Scope} {pos : Pos} (tb : LamX.TabB X.base X.mg c P) (hcd : X.env.code = .ref c) (hq : X.env.qual ++ "<lambda>" = q) (hm : (P, q) ∈ L) (hu : ∀ p ∈ L, p.1 = P → p.2 = q) (hd : defaultsOf params X.env = ([], [])) (hfr : X.Ok → ∀ y ∈ scope.names, y.2 = .free → ∃ c, X.env.cells.lookup y.1 = some c) :
    PE X (.Lambda params body scope pos) (fun σ H Q => LamX.Tabs L H ∧ ∀ f c' H1 pm ctv, Grew H H1 → LamX.Tabs L H1 → H1 f = none → H1 c' = some (LamX.CodeO c' q) → f ≠ c' → Q (.ref f) (upd H1 f (FnO f (lamO X q params body scope pm c' ctv)))) := by
  refine ⟨fun pins s σ H Q I ⟨tabs, k⟩ => ?_⟩
  refine lam_mk2 I tb hcd hq hm hu tabs hd (hfr I.ok) ?_
  intro f c' pm ctv H1 s' I1 g t1 hf hn hfr' hco hsz
  have fc : f ≠ c' := fun e => by rw [e, hco] at hn; cases hn
  have lt : ∀ b o, s.heap.get? b = some o → b ≠ f := fun b o e z => by
    have := Heap.lt_size e
    rw [z] at this
    exact absurd this (Nat.not_lt_of_le hsz)
  have J := seen_inv (f := f) (o := FnO f (lamO X q params body scope pm c' ctv)) I1 hn (Nat.le_trans I.sz hsz) (Nat.ne_of_gt (Nat.lt_of_lt_of_le I.lt hsz)) (fun x c e => by
    obtain ⟨v, z⟩ := I.cell x c e
    obtain ⟨o, ho, _⟩ := z
    exact lt c o ho) (fun p hp => lt p.1 p.2 (I.pin p hp).1) ⟨hf, ⟨_, hf⟩, fun h1 h2 a b => b _ a⟩
  exact ⟨.ref f, _, J, rfl, k f c' H1 pm ctv g t1 hn hco fc⟩
end
/-- a lambda of X's and what it comes to -/
structure LamK (X : Cx) (T : Tb) (kb : Nat) (params : Arguments) (body : Expr) (scope : Scope) (fE : EM) : Prop where
  L : LamX.LamS X.env.scope scope
  bind : ∀ (q : Str) (cl : List (Str × Addr)) (pm cv ctv : Value), bindArgs (PySem.W.kla_fn "<lambda>" q params body scope cl pm cv ctv) ⟨[], []⟩ = pure []
  run : ∀ (A : Around) (outer : List Env) (s : Shared) (H : Hp) (E : XK) (f c' : Addr), A.guards = some [] → Room kb (A.deeper (LamX.lamEnv X scope s.heap.objs.size f c')) → SE (LamX.lamCx X A outer s H E scope f c') T (fun cls d _ H' => E cls d H') body fE
section
variable {X : Cx} {pins : List (Addr × Obj)} {σ : L2.St} {H : Hp} {s : Shared}
/-- a lambda that is tracked, called in the def Z that got it -/
theorem pe_thunkT {T : Tb} {Z : Cx} {Ng : List Str} {sg : Scope} {x a q : Str} {g f c' : Addr} {cdg pm ctv : Value} {params : Arguments} {body : Expr} {scope : Scope} {k i : Nat} {pn : List (Addr × Obj)} {xe : Value → Shared → Prop} {W : WX} {fE : EM} {p1 p2 : Pos} {E0 : XK} (I : Inv X pins σ H s) (lk : LamK X T k params body scope fE) (hq : X.env.qual ++ "<lambda>" = q)
    (eZ : Z = cxOf (L2.CX X.prog X.w) X.prog X.w X.K X.mg X.base Ng x sg g cdg X.A X.stack s H E0) (tk : Takes (Z.tr pn xe) W) (hr : Room (k + 1) Z.A) (hg : X.A.guards = some []) (hN : Ng[i]? = some a) (hv : Vis sg a) (hd : (a == ("__debug__" : Str)) = false) (hcd : (a == ("__classdict__" : Str)) = false) :
    PE (Z.tr pn xe) (.Call (.Name a p1) [] [] p2) (fun σZ HZ Q => σZ[i]? = some (some (.ref f)) ∧ HZ f = some (FnO f (lamO X q params body scope pm c' ctv)) ∧ HZ c' = some (LamX.CodeO c' q) ∧ Tof T (fun cls d _ H' => W cls d σZ H') (tlE T) fE σ HZ Q) := by
  obtain ⟨L, hbind, hrun⟩ := lk
  subst hq eZ
  refine ⟨fun pinsZ sZ σZ HZ Q J h => ?_⟩
  obtain ⟨h1, hF, h2, h3⟩ := h
  have nm := (pe_var (pos := p1) (i := i) hN hv hd hcd).run pinsZ sZ σZ HZ (fun v H1 => v = .ref f ∧ H1 = HZ) J ⟨.ref f, h1, rfl, rfl⟩
  refine wpAny_Call_Name_kw (thn nm ?_)
  rintro u s1 ⟨v, H1, J1, rv, rfl, rfl⟩
  obtain rfl : u = Value.ref f := rv
  have g1 : s1.heap.get? f = some (PySem.W.kla_obj "<lambda>" (X.env.qual ++ "<lambda>") params body scope (cloFrom X.env.cells scope.names []) pm c' ctv) := (J1.hok f _ hF).1
  have hbind := hbind (X.env.qual ++ "<lambda>") (cloFrom X.env.cells scope.names []) pm (.ref c') ctv
  obtain ⟨⟨oc, vs, t, hoc, hdc, hvc⟩, _⟩ := J1.hok c' _ h2
  refine PySem.W.callWith_F0 ⟨_, _, _, _, g1⟩ ?_
  have run : codeAny (model X.prog X.w) (X.A.deeper (envOfC x sg s.heap.objs.size g cdg)) (.call (.ref f) ⟨[], []⟩) (L2.CR (L2.CX X.prog X.w) (envOfC x sg s.heap.objs.size g cdg :: X.stack) X.prog X.w H1 s1 Q fun cls d H' => W cls d σZ H') s1 := by
    refine PySem.W.kla_callFunE hr.depth g1 rfl L.co L.gen rfl ⟨c', oc, vs, t, rfl, hoc, hdc, hvc⟩ ?_
    rw [hbind]
    refine wpAny_pure (wpAny_newFunctionEnv (fun y hy => (L.own y hy).2) (fun y hy => absurd hy List.not_mem_nil) (fun h1 hns hsb => ⟨J1.nolimit.fresh _ hsb, ?_⟩) L.kind)
    have kp : ∀ b o, s1.heap.get? b = some o → h1.get? b = some o := fun b o e => hsb.extBut b o (Nat.ne_of_lt (Heap.lt_size e)) (Heap.get?_push_of_some _ e)
    have K1 := LamX.lam_start2 (A := X.A.deeper (envOfC x sg s.heap.objs.size g cdg)) (outer := envOfC x sg s.heap.objs.size g cdg :: X.stack) (E := fun cls d H' => W cls d σZ H') (f := f) (c' := c') (tk := s1.toks + ([] : List (Str × Value)).length) I L J1.env0 hr.hd J1.base hns kp
    refine PySem.W.kla_codeExpr (wpAny_mono ((hrun (X.A.deeper (envOfC x sg s.heap.objs.size g cdg)) _ s1 H1 _ f c' hg (hr.deeper _)).run [] _ _ H1 Q K1 h3) ?_ fun _ _ z => z)
    rintro v s' ⟨w', H', K', rv, q⟩
    exact ⟨w', H', K'.os, K'.bare, K'.base, K'.hok, rv, q⟩
  refine wpAny_call (codeAny_mono run ?_)
  intro r s' hq
  cases r with
  | error e => exact tk e s' (XE.of_call J1 (fun _ _ _ z => z) hq)
  | ok fl =>
    cases fl with
    | ret u => exact J1.after hq
    | next => exact hq.elim
    | brk => exact hq.elim
    | cont => exact hq.elim
end
/-- what a lambda that is tracked is -/
def LamT (X : Cx) (T : Tb) (kb : Nat) (q : Str) (H : Hp) (f : Addr) (fE : EM) : Prop := ∃ (c' : Addr) (params : Arguments) (body : Expr) (scope : Scope) (pm ctv : Value), LamK X T kb params body scope fE ∧ H f = some (FnO f (lamO X q params body scope pm c' ctv)) ∧ H c' = some (LamX.CodeO c' q)
section
variable {X B : Cx} {T : Tb} {W : WX} {pins : List (Addr × Obj)} {σ : L2.St} {H0 : Hp} {s0 : Shared} {n k kb iB : Nat} {x y q : Str} {mt : Nat → Option Bool} {wd : Nat → List PyData → Option PyData} {p pa pos : Pos} {NB : List Str} {scB scope : Scope} {ce : Env} {fp : List Addr}
/-- said(call) within a block of X's -/
theorem pe_saidB (I0 : Inv X pins σ H0 s0) (hfp : ∀ b ∈ fp, FpOk X pins H0 b) (eB : B = X.blk s0 H0 scope ce fp) (cx : Cxt X T W n) (hq : X.env.qual ++ "<lambda>" = q) (sd : SaidE X.prog X.w X.mg X.base T x k mt wd) (hn : kb + 2 ≤ n) (hk : k + 1 ≤ n) (lB : At B NB scB) (hx : gnB scB x = true) (hy : nmB NB scB iB y = true) :
    PE B (.Call (.Name x p) [.Name y pa] [] pos) (fun σB HB Q => ∃ f fE, σB[iB]? = some (some (.ref f)) ∧ LamT X T kb q HB f fE ∧ Tof T W0 (tlE T) (saidM mt wd fE) σ HB Q) := by
  have hK := cx.hK
  obtain ⟨g, fd, st, Ng, a, e, ex, i, cS, fh, b₀, suite, po, j2, q1, q2, q3, q4, q5, q6, q7, q8, hm, G, hbd, Sg, hva, hd1, hd2, hNe, hle, hi0, ⟨hge, hde, hme⟩, hmt, hwd, hbody, hsu⟩ := sd.ex
  obtain ⟨oc, od, kV, doc, pmg, an, cdv, ct, osl, rfl, lk, hcd⟩ := G.ex
  have gk := G.kp
  rw [← hK] at hbd lk hcd gk
  have hN0 : Ng[0]? = some a := by
    have h := Sg.pre
    cases Ng with
    | nil => simp at h
    | cons y r => simp at h; simp [h]
  have hNl : 1 ≤ Ng.length := lt_of_at hN0
  have hnm : PE B (.Name y pa) (tVar iB) := pe_n lB iB hy
  have lBx := lB.gl hx
  subst eB
  refine ⟨fun pinsB sB σB HB Q J h => ?_⟩
  obtain ⟨f, fE, h1, ⟨c', params, body, scl, pm, ctv, lamK, hF, hco⟩, ρ, F, O, E1, P0⟩ := h
  refine wpAny_Call_Name_kw (ld_glob J lBx.1 hm ?_ lBx.2.1)
  refine PySem.W.callWith_K (h₀ := X.base) J.ok.mod.kin gk ?_ (by rfl) (by rfl)
  have nm := hnm.run pinsB sB σB HB (fun v H1 => v = .ref f ∧ H1 = HB) J ⟨.ref f, h1, rfl, rfl⟩
  refine Calls.spliced_cons (thn nm ?_)
  rintro u s' ⟨v, H1, J1, rv, rfl, rfl⟩
  obtain rfl : u = Value.ref f := rv
  refine Calls.spliced_nil ⟨J1.kIn, ?_⟩
  -- the maker's own view
  have I1 : Inv X pins σ H1 s' := I0.call' (ch := fp) J1.os J1.base J1.hok J1.bare fun b hb => ⟨(hfp b hb).2.2.2.1, (hfp b hb).2.1, (hfp b hb).2.2.2.2.1, (hfp b hb).2.2.2.2.2⟩
  obtain ⟨k', rfl⟩ : ∃ k', n = k' + 1 := ⟨n - 1, by omega⟩
  let ctx := cxOf (L2.CX X.prog X.w) X.prog X.w X.K X.mg X.base Ng x (defScope st) g cdv X.A X.stack s' H1 (fun _ _ _ => False)
  have rc : codeAny (model X.prog X.w) X.A (.call (.ref g) ⟨[.ref f], []⟩) (L2.CR (L2.CX X.prog X.w) X.stack X.prog X.w H1 s' Q fun _ _ _ => False) s' := by
    refine LamX.run_ofS (N := Ng) (ps := [a]) (us := [.ref f]) (vs := [.ref f]) lk hcd Sg cx.room I1.env0 (hbd s' [.ref f] I1.kIn rfl) (.cons rfl .nil) rfl fun hr' => ?_
    rw [hbody]
    have tk0 : Takes ctx (fun _ _ _ _ => False) := takes_of (X := ctx) (E := fun _ _ _ => False) rfl rfl rfl rfl
    refine ⟨_, pss_one (ps_try_as (X := ctx) (c := cS) (i := i) (ts := fun A cls d D σ H => ∃ c, cls = .ref (T.ca c) ∧ TSof (T.at A c d) W0 ⟨H1, 1, fun _ => false⟩ fh D σ H)
      (tb := fun W' => tRet (tTup (tCons (tC (.str "told")) (tCons (fun σZ HZ Q => σZ[0]? = some (some (.ref f)) ∧ HZ f = some (FnO f (lamO X q params body scl pm c' ctv)) ∧ HZ c' = some (LamX.CodeO c' q) ∧ Tof T (fun cls d _ H' => W' cls d σZ H') (tlE T) fE σ HZ Q) tNil)))) rfl rfl Sg.nd hNe hle ⟨hge, hde, .inl hme⟩ tk0 (fun W' pn xe tk po => ?_) (fun A oe cls d pn hz hf => ⟨fun pins s σ H D I h => ?_⟩)), ?_⟩
    · exact pss_one (ps_ret (pe_tup (pa_cons pe_str (pa_cons (pe_thunkT (k := kb) I1 lamK hq rfl tk (hr'.mono (by omega)) cx.gd hN0 hva hd1 hd2) pa_nil))))
    · obtain ⟨ec, rfl, h2⟩ := h
      exact (hsu (ctx.suite A ((A, oe) :: pn)) W0 H1 A ec d rfl rfl rfl rfl ⟨rfl, rfl⟩ Sg.kind (fun _ => rfl) ⟨hK, cx.hw, cx.gd, ⟨(hr'.mono (by omega)).dp, (hr'.mono (by omega)).un⟩, Sg.nd, cx.sm, A, oe, ec, d, rfl, List.mem_cons_self, hz, hf⟩).run pins s σ H D I h2
    · have s0 : (L2.start Ng [V.ref f])[0]? = some (some (.ref f)) := start_put rfl
      have sl : (L2.start Ng [V.ref f]).length = Ng.length := by
        unfold L2.start
        simp
        omega
      refine ⟨s0, hF, hco, ρ, F, O, E1, ?_⟩
      have P1 : Post T W0 (tlE T) σ H1 F O Q (saidR mt wd (fE ρ)) := P0
      cases qf : fE ρ with
      | none => rw [qf] at P1; exact P1
      | some o =>
        rw [qf] at P1
        cases o with
        | ok r ρ1 =>
          intro v H2 F2 O2 x2 E2 r2
          refine ⟨show 2 ≤ sizeLine by decide, fun pt hpt => ?_⟩
          have P2 : Post T W0 (tlE T) σ H1 F O Q (bindF (frz ρ1 r) fun d ρ2 => some (.ok (.dat (.tuple [.str "told", d])) ρ2)) := P1
          cases q6 : frz ρ1 r with
          | none => rw [q6] at P2; exact P2.elim
          | some pr =>
            obtain ⟨d, ρ2⟩ := pr
            rw [q6] at P2
            obtain ⟨F3, O3, y3, E3, d3, g3, s3, n3⟩ := fz x2 (fun _ h => h) E2 r2 q6
            exact P2 (.ref pt) _ F3 O3 (y3.trans (.laid hpt)) (E3.laid hpt) (.tup (.inl (.inl upd_same)) (.cons (.str _) (.cons (d3.mono (fun b o h _ => kept_new hpt b o h) fun _ h => h) .nil)))
        | er ec fs ρ1 =>
          intro cls d H2 F2 O2 x2 E2 ex2
          have ecls : cls = .ref (T.ca ec) := ex2.1
          subst ecls
          have P2 : Post T W0 (tlE T) σ H1 F O Q (match mt ec with
            | some true => (match wd ec fs with
              | some d => some (.ok (.dat d) ρ1)
              | none => none)
            | _ => none) := P1
          split at P2
          · rename_i hmc
            split at P2
            · rename_i d' hw'
              refine ⟨true, by rw [show ctx.K = X.K from rfl, hK]; exact hmt ec true hmc, fun _ A hA => ⟨ec, rfl, ?_⟩, fun z => nomatch z⟩
              rw [hwd] at hw'
              unfold suitD at hw'
              have hil : i < (List.replicate Ng.length (none : Option R)).length := by rw [List.length_replicate]; exact lt_of_at hNe
              refine ⟨(List.replicate Ng.length none).set i (some (.ex ec fs)), F2, fun _ => [], ⟨⟨by rw [List.length_set, List.length_set, List.length_replicate, sl], fun j r' er => ?_, (fun _ _ z => absurd z List.not_mem_nil), (fun _ _ _ z => absurd z List.not_mem_nil), (fun _ _ z => absurd z List.not_mem_nil), E2.lv, E2.tb⟩, fun b hb2 => x2.live b hb2, fun _ _ _ z => absurd z List.not_mem_nil⟩, ?_⟩
              · by_cases hj : j = i
                · subst hj
                  rw [List.getElem?_set_self hil] at er
                  cases er
                  exact ⟨.ref A, List.getElem?_set_self (by rw [sl]; exact lt_of_at hNe), rfl, A, d, rfl, rfl, ex2⟩
                · rw [List.getElem?_set_ne (Ne.symm hj), List.getElem?_replicate] at er
                  split at er <;> cases er
              · cases qh : fh ((List.replicate Ng.length none).set i (some (.ex ec fs))) with
                | none => rw [qh] at hw'; cases hw'
                | some oh =>
                  rw [qh] at hw'
                  cases oh with
                  | rt rr ρ3 =>
                    cases rr with
                    | dat d0 =>
                      cases hw'
                      intro v σ3 H3 F3 O3 x3 S3 k3 r3
                      have x4 : Ext true H2 F2 (Oa (fun _ => []) O2 []) H3 F3 (fun _ => []) := ⟨fun b o h1 h2 h3 => x3.keep b o h1 (fun _ z => absurd z List.not_mem_nil) h3, x3.live, x3.grow, fun b h1 => (x3.new b h1).elim .inl fun z => z.elim (fun ⟨_, z⟩ => absurd z List.not_mem_nil) fun y => .inr (.inr y), fun _ _ z => absurd z List.not_mem_nil⟩
                      have E4 : EnvR T H3 F3 (fun _ => []) (([] : List V).map some) [] := ⟨rfl, (fun i r e => by simp at e), (fun _ _ z => absurd z List.not_mem_nil), (fun _ _ _ z => absurd z List.not_mem_nil), (fun _ _ z => absurd z List.not_mem_nil), S3.E.lv, S3.E.tb⟩
                      obtain ⟨O5, x5, E5, _⟩ := env_back E2 (B := H2) (vs := []) (rs := []) (args := []) rfl .nil (fun _ _ _ h => by simp at h) rfl .refl x4 E4
                      rw [backA_nil] at E5
                      exact P2 v H3 F3 O5 (x2.trans x5) E5 r3
                    | _ => cases hw'
                  | _ => cases hw'
            · exact P2.elim
          · exact P2.elim
  refine wpAny_call (codeAny_mono rc ?_)
  intro r s2 hq
  cases r with
  | error e =>
    obtain ⟨_, _, _, _, _, _, _, _, _, _, _, _, z⟩ := hq
    exact z.elim
  | ok fl =>
    cases fl with
    | ret u => exact J1.after hq
    | next => exact hq.elim
    | brk => exact hq.elim
    | cont => exact hq.elim
end
end DL
namespace DL
open PySem PySem.Spec PyProof.Rows
open L2 hiding Sp
section
variable {X : Cx}
/-- [elt for tg in iter] -/
theorem pe_lcI {elt tg iter : Expr} {scope : Scope} {own : List (Str × Nat)} {pos : Pos} {wi : TI} {g : TG} {teF : L2.St → TE} (hc : X.calm = true) (hN : X.N.Nodup) (hi : PI X tg iter wi) (ok : BlkOk X.N X.env.scope scope own)
    (hg : ∀ (s : Shared) (H : Hp) (C : Addr) (cl : List (Str × Addr)) (fp : List Addr), PG (X.blk s H scope (compEnvC scope cl C X.env) fp) tg g)
    (he : ∀ (pins : List (Addr × Obj)) (σ : L2.St) (s : Shared) (H : Hp) (C : Addr) (cl : List (Str × Addr)) (fp : List Addr), Inv X pins σ H s → (∀ b ∈ fp, FpOk X pins H b) → PE (X.blk s H scope (compEnvC scope cl C X.env) fp) elt (teF σ))
    (hs : ∀ x, foldedSetIterable iter X.env x = pure x := by intro _; rfl) :
    PE X (.ListComp elt [⟨tg, iter, [], 0⟩] scope pos) (fun σ H Q => tLc wi g tYes (teF σ) (own.map (·.2)) σ H Q) := by
  refine ⟨fun pins s σ H Q I h => ?_⟩
  rw [eval_ListComp]
  have hfree : ∀ y ∈ scope.names, y.2 = .free → ∃ c, X.env.cells.lookup y.1 = some c := fun y hy e => (ok.free y hy e).elim (fun k => I.ok.has _ (.inl k)) fun k => I.ok.has _ (.inr k)
  refine wpAny_comprehension_free (use := none) rfl hs (closure_ok hfree) ok.kind (fun y hy e => by rw [ok.uniq y hy, e]) (thn (hi.run pins s σ H _ I h) fun xv s1 hx => thn hx fun itv s2 h2 => ?_)
  obtain ⟨it, fp, tn, J, H2, rfl, I2, T, st2, f2, q⟩ := h2
  refine wpAny_newObj_type (newEnv_comp ?_) (by show 0 ≤ sizeLine; decide)
  generalize hD : s2.heap.objs.size = D
  have hDn : H2 D = none := I2.hok.fresh (Nat.le_of_eq hD)
  obtain ⟨W, ⟨m0, w0⟩, turn⟩ := q D hDn
  generalize hs3 : ({ s2 with heap := s2.heap.push { cls := .type "list", data := .seq ([] : List Value).toArray } } : Shared) = s3
  have h3 : s3.heap = s2.heap.push { cls := .type "list", data := .seq ([] : List Value).toArray } := by rw [← hs3]
  have I3 : Inv X pins σ (upd H2 D (.lst [])) s3 := by
    rw [← hs3]
    exact I2.laid (t' := s2.toks) (fun b o e => Heap.get?_push_of_some _ e) (Nat.le_of_eq hD) ⟨Nat.zero_le _, [], 0, .nil, by rw [← hD]; exact Heap.get?_push_size _ rfl⟩
  have sz : ∀ b ∈ fp, b < s2.heap.objs.size := fun b hb => let ⟨o, e, _⟩ := T.obj _ _ st2 b hb; Heap.lt_size e
  have f3 : ∀ b ∈ fp, FpOk X pins (upd H2 D (.lst [])) b ∧ b < s3.heap.objs.size := fun b hb => ⟨⟨by rw [upd_ne (by rw [← hD]; exact Nat.ne_of_lt (sz b hb))]; exact (f2 b hb).1, (f2 b hb).2⟩, by rw [h3, Heap.size_push]; exact Nat.lt_succ_of_lt (sz b hb)⟩
  have st3 : tn 0 s3.heap := T.keep _ _ _ st2 fun b _ o e => by rw [h3]; exact Heap.get?_push_of_some _ e
  have I4 := block_start I3 ok hN f3
  generalize hcl : cellsFrom (s3.heap.objs.size + 1) scope.names (cloFrom X.env.cells scope.names []) = cl at I4
  have pg := hg s3 (upd H2 D (.lst [])) s3.heap.objs.size cl fp
  have pe := he pins σ s3 (upd H2 D (.lst [])) s3.heap.objs.size cl fp I3 fun b hb => (f3 b hb).1
  show codeAny _ _ (.compStart (.ListComp elt [⟨tg, iter, [], 0⟩] scope pos) 0 (.ref it) (.ref D) (compEnvC scope cl s3.heap.objs.size X.env)) (compPost (model X.prog X.w) X.A X.xe none (EP X pins σ Q) (.ref D) s3.heap.objs.size) { s3 with heap := pushCells (s3.heap.push { cls := .type "dict", data := .dict #[] }) scope.names }
  generalize hce : compEnvC scope cl s3.heap.objs.size X.env = ce at I4 pg pe ⊢
  have cL : ce.locals = s3.heap.objs.size := by subst hce; rfl
  have nfp : ∀ b ∈ fp, (upd H2 D (.lst [])) b = none := fun b hb => (f3 b hb).1.1
  generalize hH3 : upd H2 D (.lst []) = H3 at I3 I4 pg pe w0 nfp f3
  generalize hs4 : ({ s3 with heap := pushCells (s3.heap.push { cls := .type "dict", data := .dict #[] }) scope.names } : Shared) = s4 at I4 ⊢
  have st4 : tn 0 s4.heap := T.keep _ _ _ st3 fun b _ o e => by rw [← hs4]; exact pushCells_keeps _ _ _ _ (Heap.get?_push_of_some _ e)
  have stat : ∀ {σ' : L2.St} {H' : Hp} {s' : Shared}, Inv (X.blk s3 H3 scope ce fp) [] σ' H' s' → (∀ b ∈ fp, H' b = none) → ∀ b ∈ fp, FpOk (X.blk s3 H3 scope ce fp) [] H' b := fun I' hn b hb =>
    ⟨hn b hb, (I'.ok.exf b hb).1, I'.ok.exfs b hb, .inl hb, fun x c e => (I'.ok.exf b hb).2 x c e, fun p hp => absurd (show p ∈ ([] : List (Addr × Obj)) ++ [] from hp) (by simp)⟩
  have loop : codeAny (model X.prog X.w) X.A (.compLoop (.ListComp elt [⟨tg, iter, [], 0⟩] scope pos) 0 (.ref it) (.ref D) ce) (compPost (model X.prog X.w) X.A X.xe none (EP X pins σ Q) (.ref D) s3.heap.objs.size) s4 := by
    refine compLoop_any (fun n s' => ∃ i H', Inv (X.blk s3 H3 scope ce fp) [] (wipe σ (own.map (·.2))) H' s' ∧ tn i s'.heap ∧ (∀ b ∈ fp, H' b = none) ∧ W i n H') ?_ m0 ⟨0, H3, I4, st4, nfp, w0⟩
    rintro n s5 ⟨i, H5, I5, st5, n5, w5⟩
    rcases turn i n H5 w5 with ⟨stop, qq⟩ | ⟨go, Nx, hNx, step⟩
    · refine thnF (T.done (X.blk s3 H3 scope ce fp) rfl rfl rfl hc i [] s5 _ H5 (fun _ _ => False) I5 (stat I5 n5) st5 stop) fun r s6 ⟨hr, I6⟩ => ?_
      subst hr
      have I7 : Inv X pins σ H5 s6 := I3.call' (ch := fp) I6.os I6.base I6.hok I6.bare fun b hb => ⟨(f3 b hb).1.2.2.2.1, (f3 b hb).1.2.1, (f3 b hb).1.2.2.2.2.1, (f3 b hb).1.2.2.2.2.2⟩
      have nC : H5 s3.heap.objs.size = none := by rw [← cL]; exact I6.free
      obtain ⟨m, hn, _⟩ := I6.loc
      have hn : s6.heap.Ns s3.heap.objs.size m := by rw [← cL]; exact hn
      obtain ⟨f0, f1, f2, f3, f4, f5⟩ := I3.fpOk (Nat.le_refl _) nC
      exact ⟨m, hn, fun h'' sb => ⟨.ref D, H5, I7.turned (t' := s6.toks) (fun b o hb e => (sb.2 b hb).trans e) f0 f1 f3 f4 f5, rfl, qq⟩⟩
    · refine thnF (T.item (X.blk s3 H3 scope ce fp) rfl rfl rfl hc i [] s5 _ H5 (fun _ _ => False) I5 (stat I5 n5) st5 go) fun r s6 ⟨u, hr, h6⟩ => ?_
      subst hr
      refine thnF h6 fun _ s7 ⟨x, H7, I7, r7, y7, st7, n7⟩ => ?_
      refine thnF (pg.run _ s7 _ H7 x u _ (I7.pinned (stat I7 n7) (T.obj _ _ st7)) r7 (step x H7 y7)) fun _ s8 ⟨σ8, H8, I8, hw8, q8⟩ => ?_
      have fin : ∀ {s' : Shared} {H' : Hp}, Inv (X.blk s3 H3 scope ce fp) ([] ++ pinsAt fp s7.heap) σ8 H' s' → Nx H' → ∃ m, m < n ∧ ∃ i H', Inv (X.blk s3 H3 scope ce fp) [] (wipe σ (own.map (·.2))) H' s' ∧ tn i s'.heap ∧ (∀ b ∈ fp, H' b = none) ∧ W i m H' := fun {s' H'} I' nx => by
        obtain ⟨m', hm, w'⟩ := hNx H' nx
        have pin' : ∀ b ∈ fp, ∀ o, s7.heap.get? b = some o → s'.heap.get? b = some o ∧ H' b = none := fun b hb o e =>
          let z := I'.pin (b, o) (List.mem_append_right _ (List.mem_append_right _ (mem_pinsAt hb e)))
          ⟨z.1, z.2.1⟩
        exact ⟨m', hm, i + 1, H', (I'.unpinned (pins := [])).weak (by rw [← hw8, wipe_length]) (fun j v e => by rw [← hw8] at e; exact (wipe_some e).1), T.keep _ _ _ st7 fun b hb o e => (pin' b hb o e).1, fun b hb => let ⟨o, e, _⟩ := T.obj _ _ st7 b hb; (pin' b hb o e).2, w'⟩
      rw [List.forIn_nil]
      refine wpAny_pure ?_
      have q9 : teF σ σ8 H8 fun y H4 => ∃ acc, H4 D = some (.lst acc) ∧ acc.length < sizeLine ∧ Nx (upd H4 D (.lst (acc ++ [y]))) := by
        have z : (if true = true then teF σ σ8 H8 (fun y H4 => ∃ acc, H4 D = some (.lst acc) ∧ acc.length < sizeLine ∧ Nx (upd H4 D (.lst (acc ++ [y])))) else Nx H8) := q8
        rwa [if_pos rfl] at z
      rw [if_pos rfl]
      refine thnF (pe.run _ s8 σ8 H8 _ I8 q9) fun z s10 ⟨yv, H10, I10, r10, acc, hD10, hz10, nx⟩ => ?_
      exact app_ok (X := X.blk s3 H3 scope ce fp) I10 hD10 hz10 r10 fun s11 I11 => fin I11 nx
  exact codeAny_compStart_list loop (T.self X.A 0 _ _ _ st4 loop)
end
end DL
namespace DL
open PySem PySem.Spec PyProof.Rows
open L2 hiding Sp
def isHo : Option (Option R) → Bool
  | some none => true
  | _ => false
theorem isHo_of {x : Option (Option R)} (h : isHo x = true) : x = some none := by
  unfold isHo at h
  split at h
  · rfl
  · cases h
theorem atI_z {α : Type} (w : α) (xs : List α) : atI (w :: xs) 0 = some w := by
  unfold atI ixN
  rw [if_pos (Int.le_refl 0), if_pos (by rw [List.length_cons]; omega)]
  rfl
def lamsR (k : PyData → Rho → Option (Oe R)) : Option (Oe R) → Option (Oe R)
  | some (.ok (.dat (.tuple (d :: _))) ρ) => k d ρ
  | _ => none
def lamsL (mt : Nat → Option Bool) (wd : Nat → List PyData → Option PyData) : List EM → Rho → List PyData → Option (Oe R)
  | [], ρ, acc => some (.ok (.own (.list acc)) ρ)
  | f :: fs, ρ, acc => lamsR (fun d ρ1 => if acc.length < lim then lamsL mt wd fs ρ1 (acc ++ [d]) else none) (saidM mt wd f ρ)
def lamsE (mt : Nat → Option Bool) (wd : Nat → List PyData → Option PyData) (fs : List EM) : EM := fun ρ => lamsL mt wd fs ρ []
def lamsM (n j i : Nat) (mt : Nat → Option Bool) (wd : Nat → List PyData → Option PyData) (fs : List EM) : SM := fun ρ => if (isHo ρ[j]? && isHo ρ[i]?) = true then retM n (lamsE mt wd fs) ρ else none
inductive LamTs (X : Cx) (T : Tb) (kb : Nat) (q : Str) (H : Hp) : List Addr → List EM → Prop where
  | nil : LamTs X T kb q H [] []
  | cons {f : Addr} {fE : EM} {fs : List Addr} {es : List EM} : LamT X T kb q H f fE → LamTs X T kb q H fs es → LamTs X T kb q H (f :: fs) (fE :: es)
section
variable {X : Cx} {T : Tb} {kb : Nat} {q : Str} {H H' : Hp}
theorem LamT.mono {f : Addr} {fE : EM} (k : ∀ b o, H b = some o → (b = f ∨ ∃ c q, o = LamX.CodeO c q) → H' b = some o) : LamT X T kb q H f fE → LamT X T kb q H' f fE
  | ⟨c', params, body, scope, pm, ctv, h1, h2, h3⟩ => ⟨c', params, body, scope, pm, ctv, h1, k _ _ h2 (.inl rfl), k _ _ h3 (.inr ⟨_, _, rfl⟩)⟩
theorem LamTs.mono : ∀ {fs : List Addr} {es : List EM}, (∀ b o, H b = some o → (b ∈ fs ∨ ∃ c q, o = LamX.CodeO c q) → H' b = some o) → LamTs X T kb q H fs es → LamTs X T kb q H' fs es
  | _, _, _, .nil => .nil
  | _, _, k, .cons a b => .cons (a.mono fun b o h z => k b o h (z.imp (fun e => by rw [e]; exact List.mem_cons_self) id)) (b.mono fun b o h z => k b o h (z.imp (List.mem_cons_of_mem _) id))
theorem LamTs.snoc {f : Addr} {fE : EM} : ∀ {fs : List Addr} {es : List EM}, LamTs X T kb q H fs es → LamT X T kb q H f fE → LamTs X T kb q H (fs ++ [f]) (es ++ [fE])
  | _, _, .nil, h => .cons h .nil
  | _, _, .cons a b, h => .cons a (b.snoc h)
theorem LamTs.len : ∀ {fs : List Addr} {es : List EM}, LamTs X T kb q H fs es → fs.length = es.length
  | _, _, .nil => rfl
  | _, _, .cons _ b => by rw [List.length_cons, List.length_cons, b.len]
theorem LamTs.at_ : ∀ {fs : List Addr} {es : List EM} {i : Nat} {f : Addr}, LamTs X T kb q H fs es → fs[i]? = some f → ∃ fE, es[i]? = some fE ∧ LamT X T kb q H f fE
  | _, _, _, _, .nil, h => by simp at h
  | _, _, 0, _, .cons a _, h => by simp at h; subst h; exact ⟨_, rfl, a⟩
  | _, _, i + 1, _, .cons _ b, h => by
    obtain ⟨fE, e, h⟩ := b.at_ (i := i) (by simpa using h)
    exact ⟨fE, by simpa using e, h⟩
theorem LamT.there {f : Addr} {fE : EM} : LamT X T kb q H f fE → ∃ ob, H f = some (FnO f ob)
  | ⟨_, _, _, _, _, _, _, h2, _⟩ => ⟨_, h2⟩
theorem LamTs.there {f : Addr} : ∀ {fs : List Addr} {es : List EM}, LamTs X T kb q H fs es → f ∈ fs → ∃ ob, H f = some (FnO f ob)
  | _, _, .nil, h => by cases h
  | _, _, .cons a b, h => by
    rcases List.mem_cons.mp h with rfl | h
    · exact a.there
    · exact b.there h
end
section
variable {X : Cx} {T : Tb} {W : WX} {n k kb iB j : Nat} {x y yc q : Str} {mt : Nat → Option Bool} {wd : Nat → List PyData → Option PyData} {N : List Str} {sc scope : Scope} {p pa p0 p1 p2 p3 pos : Pos} {k0 : Nat}
theorem pg_loc {tpos : Pos} (a : At X N sc) (nd : X.N.Nodup) (i : Nat) (h : (decide (N[i]? = some x) && locB sc x) = true) (hf : X.fn x = true ∨ sc.names.lookup x = some .local) : PG X (.Name x tpos) (gName i) := by
  simp only [Bool.and_eq_true, decide_eq_true_eq] at h
  exact pg_name nd (by rw [a.hN]; exact h.1) (by rw [a.hs]; exact locB_ok h.2) (by rw [a.hs]; exact hf)
/-- what stands at the list's walk -/
def tCalls (X : Cx) (T : Tb) (W : WX) (kb j iB : Nat) (q : Str) (mt : Nat → Option Bool) (wd : Nat → List PyData → Option PyData) : TE := fun σ H Q => ∃ (ρ : Rho) (F : Reg) (O : Ows) (a : Addr) (vs : List Addr) (es : List EM), EnvR T H F O σ ρ ∧ σ[j]? = some (some (.ref a)) ∧ H a = some (.lst (vs.map V.ref)) ∧ ¬ F a ∧ (∀ i, a ∉ O i) ∧ LamTs X T kb q H vs es ∧ (∀ f ∈ vs, ∀ i, f ∉ O i) ∧ iB < σ.length ∧ Post T W (tlE T) σ H F O Q (lamsL mt wd es ρ [])
theorem pe_calls {tpos : Pos} (lX : At X N sc) (cx : Cxt X T W n) (hq : X.env.qual ++ "<lambda>" = q) (sd : SaidE X.prog X.w X.mg X.base T x k mt wd) (hn : kb + 2 ≤ n) (hk : k + 1 ≤ n) (hj : nmB N sc j y = true) (hb : blkC N sc scope [(yc, iB)] = true)
    (hx : gnB (relS scope sc) x = true) (hy : nmB N (relS scope sc) iB yc = true) (ht : (decide (N[iB]? = some yc) && locB (relS scope sc) yc) = true) (hl : (relS scope sc).names.lookup yc = some .local) (hs : ∀ x, foldedSetIterable (.Name y p3) X.env x = pure x := by intro _; rfl) :
    PE X (.ListComp (.Subscript (.Call (.Name x p) [.Name yc pa] [] p0) (.Constant (.int 0) k0 p1) p2) [⟨.Name yc tpos, .Name y p3, [], 0⟩] scope pos) (tCalls X T W kb j iB q mt wd) := by
  have hi : PI X (.Name yc tpos) (.Name y p3) (iList X.K (tVar j)) := pi_list (pe_n lX j hj)
  have main := pe_lcI (X := X) (elt := .Subscript (.Call (.Name x p) [.Name yc pa] [] p0) (.Constant (.int 0) k0 p1) p2) (tg := .Name yc tpos) (iter := .Name y p3) (scope := scope) (own := [(yc, iB)]) (pos := pos) (g := gName iB)
    (teF := fun σ => tOp (rIx X.K) (fun σB HB Q => ∃ f fE, σB[iB]? = some (some (.ref f)) ∧ LamT X T kb q HB f fE ∧ Tof T W0 (tlE T) (saidM mt wd fE) σ HB Q) (tC (.int 0))) cx.calm cx.nd hi (lX.blkOk hb)
    (fun s H C cl fp => pg_loc (lX.blk s H scope cl C fp) cx.nd iB ht (.inr hl))
    (fun pins σ s H C cl fp I hfp => pe_ix ix_seq (pe_saidB I hfp rfl cx hq sd hn hk (lX.blk s H scope cl C fp) hx hy) pe_int (fun _ _ => rfl)) hs
  refine pe_imp main fun σ H Q ⟨ρ, F, O, a, vs, es, E, hjv, ha, nf, no, ts, nv, hib, P⟩ => ?_
  refine ⟨.ref a, hjv, a, rfl, ⟨_, .inl (.inl ha)⟩, fun D hD => ?_⟩
  have lv : vs.length = es.length := ts.len
  have aD : a ≠ D := fun e => by rw [e, hD] at ha; cases ha
  let Pv : Nat → Hp → Prop := fun i H' => ∃ (ρ' : Rho) (F' : Reg) (O' : Ows) (acc : List PyData) (va : List V), Ext false H F O H' F' O' ∧ EnvR T H' F' O' σ ρ' ∧ H' D = some (.lst va) ∧ DFs T.K H' F' va acc ∧ ¬ F' D ∧ (∀ j, D ∉ O' j) ∧ H' a = some (.lst (vs.map V.ref)) ∧ LamTs X T kb q H' vs es ∧ (∀ f ∈ vs, ∀ j, f ∉ O' j) ∧ (∀ j, a ∉ O' j) ∧ Post T W (tlE T) σ H F O Q (lamsL mt wd (es.drop i) ρ' acc)
  refine lc_list (K := X.K) (a := a) (xs := vs.map V.ref) (D := D) Pv ?_ ?_ ?_ ?_
  · exact ⟨ρ, F, O, [], [], .laid hD, E.laid hD, upd_same, .nil, fun z => E.lv D z hD, E.ne_new hD, by rw [upd_ne aD]; exact ha, ts.mono fun b o h _ => kept_new hD b o h, nv, no, by rw [List.drop_zero]; exact P⟩
  · rintro i H' _ ⟨ρ', F', O', acc, va, _, _, _, _, _, _, h, _⟩
    exact .inl (.inl h)
  · rintro i v H' hv ⟨ρ', F', O', acc, va, x', E', hDl, sa, nD, oD, ha', ts', nv', no', P'⟩
    rw [List.getElem?_map] at hv
    cases qf : vs[i]? with
    | none => rw [qf] at hv; cases hv
    | some f =>
      rw [qf] at hv
      cases hv
      obtain ⟨fE, e1, lt⟩ := ts'.at_ qf
      have hil : i < es.length := (List.getElem?_eq_some_iff.mp e1).1
      refine ⟨by
        show ((σ.set iB none).set iB (some (V.ref f))).set iB none = σ.set iB none
        rw [List.set_set, List.set_set], ?_⟩
      unfold tYes
      dsimp only
      rw [if_pos rfl]
      rw [List.drop_eq_getElem_cons hil] at P'
      have ee : es[i] = fE := by
        have := List.getElem?_eq_getElem hil
        rw [e1] at this
        exact (Option.some.inj this).symm
      rw [ee] at P'
      have P2 : Post T W (tlE T) σ H F O Q (lamsR (fun d ρ1 => if acc.length < lim then lamsL mt wd (es.drop (i + 1)) ρ1 (acc ++ [d]) else none) (saidM mt wd fE ρ')) := P'
      refine ⟨f, fE, List.getElem?_set_self (by rw [wipe_length]; exact hib), lt, ρ', F', O', E', ?_⟩
      cases qs : saidM mt wd fE ρ' with
      | none => rw [qs] at P2; exact P2.elim
      | some o =>
        rw [qs] at P2
        cases o with
        | er c fs ρ1 => exact P2.elim
        | ok r ρ1 =>
          intro v H4 F4 O4 x4 E4 r4
          have P3 : Post T W (tlE T) σ H F O Q (lamsR (fun d ρ1 => if acc.length < lim then lamsL mt wd (es.drop (i + 1)) ρ1 (acc ++ [d]) else none) (some (.ok r ρ1))) := P2
          unfold lamsR at P3
          split at P3
          · rename_i d ds ρ2 he
            cases he
            split at P3
            · rename_i hz
              have r4' : DF T.K H4 F4 v (.tuple (d :: ds)) := r4
              cases r4' with
              | tup sq dd =>
                rename_i pt xs
                cases dd with
                | cons d1 dr =>
                  rename_i w xr
                  refine .inr (.inl ⟨pt, _, 0, w, rfl, rfl, by rw [cx.hK]; exact sq, atI_z _ _, va, x4.keep D _ hDl oD trivial, by rw [sa.length]; exact Nat.lt_of_lt_of_le hz (by decide), ?_⟩)
                  have hD4 : H4 D = some (.lst va) := x4.keep D _ hDl oD trivial
                  have nD4 : ¬ F4 D := fun z => by
                    rcases x4.new D z with z | ⟨j, z⟩ | z
                    · exact nD z
                    · exact oD j z
                    · rw [hDl] at z; cases z
                  have oD4 : ∀ j, D ∉ O4 j := fun j z => (x4.ow z).elim (fun ⟨k, y⟩ => oD k y) fun y => by rw [hDl] at y; cases y
                  obtain ⟨E8, k8⟩ := E4.other (o' := .lst (va ++ [w])) hD4 (fun z => z) nD4 oD4
                  have own4 : ∀ j b, b ∈ O4 j → b ∈ O' j := fun j b h => (x4.own j b h).elim id fun z => nomatch z.1
                  have kk : ∀ b o, H' b = some o → b ≠ D → NT o → (∀ j, b ∉ O' j) → upd H4 D (.lst (va ++ [w])) b = some o := fun b o h ne nt n => by
                    rw [upd_ne ne]
                    exact x4.keep b o h n nt
                  refine ⟨ρ1, F4, O4, acc ++ [d], va ++ [w], ?_, E8, upd_same, ((sa.mono (E'.kept x4) x4.grow).append (.cons d1 .nil)).mono k8 fun _ h => h, nD4, oD4, kk a _ ha' aD trivial no', ts'.mono fun b o h z => ?_, fun f hf j z => nv' f hf j (own4 j f z), fun j z => no' j (own4 j a z), P3⟩
                  · have y := x'.trans x4
                    exact ext_other y hD
                  · rcases z with z | ⟨c, q, rfl⟩
                    · obtain ⟨ob, e⟩ := ts'.there z
                      rw [e] at h
                      cases h
                      exact kk b _ e (fun e2 => by rw [e2, hDl] at e; cases e) trivial (nv' b z)
                    · exact kk b _ h (fun e2 => by rw [e2, hDl] at h; cases h) trivial fun j z => (E'.nc z h).2 c q rfl
            · exact P3.elim
          · exact P3.elim
  · rintro H' ⟨ρ', F', O', acc, va, x', E', hDl, sa, nD, oD, ha', ts', nv', no', P'⟩
    rw [List.length_map, lv, List.drop_length] at P'
    exact P' (.ref D) H' F' O' x' E' ⟨D, rfl, hD, nD, oD, va, hDl, sa⟩
end
end DL
namespace DL
open PySem PySem.Spec PyProof.Rows
open L2 hiding Sp
section
variable {X : Cx} {T : Tb} {W : WX} {φ : Fm} {kb j iB : Nat} {q : Str} {mt : Nat → Option Bool} {wd : Nat → List PyData → Option PyData}
/-- some lambdas are kept, the rest is to come -/
def tLm (X : Cx) (T : Tb) (W : WX) (φ : Fm) (kb j iB : Nat) (q : Str) (mt : Nat → Option Bool) (wd : Nat → List PyData → Option PyData) (es rest : List EM) : TS := fun D σ H => ∃ (ρ : Rho) (F : Reg) (O : Ows) (a : Addr) (vs : List Addr) (σ0 : L2.St) (B : Hp) (FB : Reg) (OB : Ows),
  StR T φ H F O σ ρ ∧ σ[j]? = some (some (.ref a)) ∧ H a = some (.lst (vs.map V.ref)) ∧ ¬ F a ∧ (∀ i, a ∉ O i) ∧ B a = none ∧ LamTs X T kb q H vs es ∧ (∀ f ∈ vs, ∀ i, f ∉ O i) ∧ iB < σ.length ∧ Ext true B FB OB H F O ∧ Keeps φ.pr σ0 σ ∧ es.length + rest.length < 1000 ∧ PostS T W φ σ0 B FB OB D (retM φ.n (lamsE mt wd (es ++ rest)) ρ)
theorem lm_ret {es : List EM} {D : Ends} {σ : L2.St} {H : Hp} (h : tLm X T W φ kb j iB q mt wd es [] D σ H) : tRet (tCalls X T W kb j iB q mt wd) D σ H := by
  obtain ⟨ρ, F, O, a, vs, σ0, B, FB, OB, S, h1, h2, h3, h4, h5, h6, h7, h8, y, kp, hz, P⟩ := h
  rw [List.append_nil] at P
  refine ⟨ρ, F, O, a, vs, es, S.E, h1, h2, h3, h4, h6, h7, h8, ?_⟩
  have P' : PostS T W φ σ0 B FB OB D (bindS (lamsL mt wd es ρ []) fun r ρ1 => (retR φ.n ρ1 r).map fun p => .rt p.1 p.2) := P
  cases ql : lamsL mt wd es ρ [] with
  | none => rw [ql] at P'; exact P'
  | some o =>
    rw [ql] at P'
    cases o with
    | er c fs ρ1 => exact fun cls d H1 F1 O1 x1 E1 ex => P' cls d σ H1 F1 O1 (y.trans x1.up) (S.step x1 E1) kp ex
    | ok r ρ1 =>
      intro v H1 F1 O1 x1 E1 r1
      have P2 : PostS T W φ σ0 B FB OB D ((retR φ.n ρ1 r).map fun p => .rt p.1 p.2) := P'
      cases qr : retR φ.n ρ1 r with
      | none => rw [qr] at P2; exact P2.elim
      | some p =>
        obtain ⟨r', ρ2⟩ := p
        rw [qr] at P2
        obtain ⟨F2, O2, y2, S2, r2⟩ := ret_ok (y.trans x1.up) (fun b h => y.live b h) S.lb (S.step x1 E1) r1 qr
        exact P2 v σ H1 F2 O2 y2 S2 kp r2
/-- one lambda more -/
theorem lm_app {es rest : List EM} {fE : EM} {params : Arguments} {body : Expr} {scl : Scope} {D : Ends} {σ : L2.St} {H : Hp} (lk : LamK X T kb params body scl fE) (h : tLm X T W φ kb j iB q mt wd es (fE :: rest) D σ H) :
    tBM X.K "list" rAppend (tVar j) (tCons (fun σ H Q => LamX.Tabs T.tb H ∧ ∀ f c' H1 pm ctv, Grew H H1 → LamX.Tabs T.tb H1 → H1 f = none → H1 c' = some (LamX.CodeO c' q) → f ≠ c' → Q (.ref f) (upd H1 f (FnO f (lamO X q params body scl pm c' ctv)))) tNil) σ H fun _ H1 => tLm X T W φ kb j iB q mt wd (es ++ [fE]) rest D σ H1 := by
  obtain ⟨ρ, F, O, a, vs, σ0, B, FB, OB, S, h1, h2, h3, h4, h5, h6, h7, h8, y, kp, hz, P⟩ := h
  refine ⟨.ref a, h1, .inl ⟨rfl, _, .inl (.inl h2)⟩, S.E.tb, fun f c' H1 pm ctv g t1 hf hc fc => ?_⟩
  have E1 := S.E.grew g t1
  have a1 : H1 a = some (.lst (vs.map V.ref)) := g.keep a _ h2 trivial
  have af : a ≠ f := fun e => by rw [e, hf] at a1; cases a1
  have E2 : EnvR T (upd H1 f (FnO f (lamO X q params body scl pm c' ctv))) F O σ ρ := E1.laid hf
  have a2 : (upd H1 f (FnO f (lamO X q params body scl pm c' ctv))) a = some (.lst (vs.map V.ref)) := by rw [upd_ne af]; exact a1
  have y2 : Ext true B FB OB (upd H1 f (FnO f (lamO X q params body scl pm c' ctv))) F O := (y.trans g.ext).trans (.laid hf)
  have S2 : StR T φ (upd H1 f (FnO f (lamO X q params body scl pm c' ctv))) F O σ ρ := ⟨E2, fun b h => S.lb b ((g.ext (s := true) (F := F) (O := O)).trans (.laid hf) |>.live b h), S.lf⟩
  have sz : (vs.map V.ref).length < sizeLine := by
    rw [List.length_map, h6.len]
    exact Nat.lt_of_lt_of_le (show es.length < 1000 by omega) (by decide)
  refine ⟨a, _, .ref f, rfl, rfl, a2, sz, ρ, F, O, a, vs ++ [f], σ0, B, FB, OB, S2.other a2 h3 h4, h1, ?_, h3, h4, h5, ?_, fun f' hf' i z => ?_, h8, ext_other y2 h5, kp, by rw [List.length_append]; rw [List.length_cons] at hz; show es.length + 1 + rest.length < 1000; omega, ?_⟩
  · rw [upd_same, List.map_append]; rfl
  · refine LamTs.snoc (h6.mono fun b o h z => ?_) ⟨c', params, body, scl, pm, ctv, lk, ?_, ?_⟩
    · have hb : H1 b = some o := by
        rcases z with z | ⟨c, q, rfl⟩
        · obtain ⟨ob, e⟩ := h6.there z
          rw [e] at h
          cases h
          exact g.keep b _ e trivial
        · exact g.keep b _ h trivial
      have ba : b ≠ a := fun e => by
        rw [e, a1] at hb
        cases hb
        rcases z with z | ⟨c, q, z⟩
        · obtain ⟨ob, e2⟩ := h6.there z
          rw [e, h2] at e2
          cases e2
        · unfold LamX.CodeO at z; cases z
      rw [upd_ne ba, upd_ne (ne_of_none hb hf)]
      exact hb
    · rw [upd_ne (Ne.symm af), upd_same]
    · rw [upd_ne (fun e => by rw [e, a1] at hc; unfold LamX.CodeO at hc; cases hc), upd_ne (Ne.symm fc)]
      exact hc
  · rcases List.mem_append.mp hf' with z' | z'
    · exact h7 f' z' i z
    · cases List.mem_singleton.mp z'
      exact E1.ne_new hf i z
  · rw [List.append_assoc]
    exact P
abbrev tLamE (X : Cx) (T : Tb) (q : Str) (params : Arguments) (body : Expr) (scl : Scope) : TE := fun σ H Q => LamX.Tabs T.tb H ∧ ∀ f c' H1 pm ctv, Grew H H1 → LamX.Tabs T.tb H1 → H1 f = none → H1 c' = some (LamX.CodeO c' q) → f ≠ c' → Q (.ref f) (upd H1 f (FnO f (lamO X q params body scl pm c' ctv)))
theorem lm_first {rest : List EM} {fE : EM} {params : Arguments} {body : Expr} {scl : Scope} {D : Ends} {σ : L2.St} {H : Hp} (hp : φ.pr j = false) (hji : j ≠ iB) (hz : rest.length < 900) (lk : LamK X T kb params body scl fE) (h : TSof T W φ (lamsM φ.n j iB mt wd (fE :: rest)) D σ H) :
    tAsg (tLst (tCons (tLamE X T q params body scl) tNil)) (gName j) { D with nx := tLm X T W φ kb j iB q mt wd [fE] rest D } σ H := by
  obtain ⟨ρ, F, O, S, P⟩ := h
  unfold lamsM at P
  split at P
  · rename_i hh
    obtain ⟨hj, hb⟩ := Bool.and_eq_true_iff.mp hh
    have hj := isHo_of hj
    have hb := isHo_of hb
    refine ⟨S.E.tb, fun f c' H1 pm ctv g t1 hf hc fc => ⟨by show 1 ≤ sizeLine; decide, fun a ha => ?_⟩⟩
    have E1 := S.E.grew g t1
    have af : a ≠ f := fun e => by rw [e, upd_same] at ha; cases ha
    have a1 : H1 a = none := by rw [upd_ne af] at ha; exact ha
    have E2 : EnvR T (upd H1 f (FnO f (lamO X q params body scl pm c' ctv))) F O σ ρ := E1.laid hf
    have E3 : EnvR T (upd (upd H1 f (FnO f (lamO X q params body scl pm c' ctv))) a (.lst [.ref f])) F O σ ρ := E2.laid ha
    have E4 : EnvR T (upd (upd H1 f (FnO f (lamO X q params body scl pm c' ctv))) a (.lst [.ref f])) F O (σ.set j (some (.ref a))) ρ := ⟨by rw [List.length_set]; exact E3.len, fun i r e => by
      have ij : i ≠ j := fun z => by rw [z, hj] at e; cases e
      rw [List.getElem?_set_ne (Ne.symm ij)]
      exact E3.at_ i r e, E3.own, E3.inj, E3.nf, E3.lv, E3.tb⟩
    have y : Ext true H F O (upd (upd H1 f (FnO f (lamO X q params body scl pm c' ctv))) a (.lst [.ref f])) F O := (g.ext.trans (.laid hf)).trans (.laid ha)
    have ac : a ≠ c' := fun e => by rw [e, hc] at a1; cases a1
    have lj : j < σ.length := by rw [← S.E.len]; exact lt_of_at hj
    have li : iB < σ.length := by rw [← S.E.len]; exact lt_of_at hb
    refine ⟨ρ, F, O, a, [f], σ, H, F, O, ⟨E4, fun b h => S.lb b (y.live b h), S.lf⟩, List.getElem?_set_self lj, upd_same, fun z => S.E.lv a z (g.live a a1), E1.ne_new a1, g.live a a1, .cons ⟨c', params, body, scl, pm, ctv, lk, ?_, ?_⟩ .nil, fun f' hf' i z => ?_, by rw [List.length_set]; exact li, y, .set hp, by show 1 + rest.length < 1000; omega, P⟩
    · rw [upd_ne (Ne.symm af), upd_same]
    · rw [upd_ne (Ne.symm ac), upd_ne (Ne.symm fc)]
      exact hc
    · cases List.mem_singleton.mp hf'
      exact E1.ne_new hf i z
  · exact P.elim
end
section
variable {X : Cx} {T : Tb} {W : WX} {φ : Fm} {n k kb j iB : Nat} {x y yc q : Str} {c P : Addr} {mt : Nat → Option Bool} {wd : Nat → List PyData → Option PyData} {N : List Str} {sc scope : Scope} {p pa p0 p1 p2 p3 p4 pos tpos : Pos} {k0 : Nat} {params : Arguments} {body : Expr} {scl : Scope} {fE : EM} {rest : List Stmt} {fs : List EM}
theorem lamK_of (l : At X N sc) (cx : Cxt X T W n) (hs : LamX.lamSB sc scl = true) (hb : ∀ (A : Around) (outer : List Env) (s : Shared) (H : Hp) (E : XK) (f c' : Addr), Cxt (LamX.lamCx X A outer s H E scl f c') T (fun cls d _ H' => E cls d H') kb → SE (LamX.lamCx X A outer s H E scl f c') T (fun cls d _ H' => E cls d H') body fE)
    (hbind : ∀ (q : Str) (cl : List (Str × Addr)) (pm cv ctv : Value), bindArgs (PySem.W.kla_fn "<lambda>" q params body scl cl pm cv ctv) ⟨[], []⟩ = pure [] := by intros; rfl) : LamK X T kb params body scl fE :=
  ⟨by rw [l.hs]; exact LamX.lamS_by hs, hbind, fun A outer s H E f c' hg hr => hb A outer s H E f c' ⟨cx.hK, cx.hw, rfl, hr, hg, takes_of rfl rfl rfl rfl, passes_of rfl, cx.nd, cx.sm⟩⟩
theorem lamS_ret (lX : At X N sc) (cx : Cxt X T W n) (lc : LamC X T c P q) (sd : SaidE X.prog X.w X.mg X.base T x k mt wd) (hn : kb + 2 ≤ n) (hk : k + 1 ≤ n) (hj : nmB N sc j y = true) (hb : blkC N sc scope [(yc, iB)] = true)
    (hx : gnB (relS scope sc) x = true) (hy : nmB N (relS scope sc) iB yc = true) (ht : (decide (N[iB]? = some yc) && locB (relS scope sc) yc) = true) (hl : (relS scope sc).names.lookup yc = some .local) (hs : ∀ x, foldedSetIterable (.Name y p3) X.env x = pure x := by intro _; rfl) :
    ∀ es, PSs X [.Return (some (.ListComp (.Subscript (.Call (.Name x p) [.Name yc pa] [] p0) (.Constant (.int 0) k0 p1) p2) [⟨.Name yc tpos, .Name y p3, [], 0⟩] scope p4)) pos] (tLm X T W φ kb j iB q mt wd es []) :=
  fun _ => pss_imp (pss_one (ps_ret (pe_calls lX cx lc.ql sd hn hk hj hb hx hy ht hl hs))) fun _ _ _ h => lm_ret h
theorem lamS_app (lX : At X N sc) (lc : LamC X T c P q) (hj : nmB N sc j y = true) (lk : LamK X T kb params body scl fE) (h : ∀ es, PSs X rest (tLm X T W φ kb j iB q mt wd es fs)) (hd : defaultsOf params X.env = ([], []) := by rfl) (hs : swapsWith (.Call (.Attribute (.Name y p1) "append" p2) [.Lambda params body scl p3] [] p4) none pos.line X.env = pure false := by rfl)
    (hbase : attributeBase (.Name y p1) "append" X.env (eval (.Name y p1) X.env) = eval (.Name y p1) X.env := by rfl) (hline : (p2.endLine == p4.line) = true := by rfl) :
    ∀ es, PSs X (.Expr (.Call (.Attribute (.Name y p1) "append" p2) [.Lambda params body scl p3] [] p4) pos :: rest) (tLm X T W φ kb j iB q mt wd es (fE :: fs)) :=
  fun es => pss_imp (pss_cons (ps_expr (pe_bm PySem.F.plainAttrs_list PySem.F.slot_list_append PySem.F.type_list_append mt_append (pe_n lX j hj) (pa_cons (pe_lam (L := T.tb) lc.tb lc.cd lc.ql lc.mem lc.uni hd lk.L.has) pa_nil) (hbase := hbase) (hline := hline)) hs) (h (es ++ [fE]))) fun _ _ _ z => lm_app lk z
theorem lamS_first {ps pl : Pos} (lX : At X N sc) (cx : Cxt X T W n) (fn : ∀ x, X.fn x = true) (lc : LamC X T c P q) (hj : tgB N sc j y = true) (hp : φ.pr j = false) (hji : j ≠ iB) (lk : LamK X T kb params body scl fE) (h : ∀ es, PSs X rest (tLm X T W φ kb j iB q mt wd es fs)) (hz : fs.length < 900 := by decide) (hd : defaultsOf params X.env = ([], []) := by rfl)
    (hs : swapsWith (.List [.Lambda params body scl p3] pl) (some (.Name y ps)) pos.line X.env = pure false := by rfl) : SB X T W φ (.Assign [.Name y ps] (.List [.Lambda params body scl p3] pl) pos :: rest) (lamsM φ.n j iB mt wd (fE :: fs)) := by
  have hj' := hj
  unfold tgB at hj'
  simp only [Bool.and_eq_true, decide_eq_true_eq] at hj'
  exact pss_imp (pss_cons (ps_set cx.nd (by rw [lX.hN]; exact hj'.1) (by rw [lX.hs]; exact locB_ok hj'.2) (pe_lst (pa_cons (pe_lam (L := T.tb) lc.tb lc.cd lc.ql lc.mem lc.uni hd lk.L.has) pa_nil)) hs (.inl (fn y))) (h [fE])) fun _ _ _ z => lm_first hp hji hz lk z
end
end DL
namespace Lw
open PySem L2 DL
theorem runD_eq (n m : Nat) (pr : Nat → Bool) (f : SM) (args : List R) (ρ : Rho) (h1 : args.length = n) (h2 : args.map some ++ List.replicate (m - n) none = ρ) : runD n m pr f args = fnR n pr (f ρ) := by
  subst h1 h2
  unfold runD
  rw [if_pos rfl]
  rfl
def k_KINDS : PyData := (.tuple [(.int 1), (.int 2), (.int 3), (.int 4)])
def k_LATEST : PyData := (.int 2000)
def k_MOST_AGE : PyData := (.int 999)
def k_MOST_SPANS : PyData := (.int 40)
def k_MOST_TIME : PyData := (.int 9999)
abbrev ix_NoBook : Nat := 1
abbrev ix_NoTime : Nat := 2
abbrev ix_NoPlain : Nat := 5
def mt_SpanError : Nat → Option Bool := fun c => ([(1, true), (2, true), (5, true)] : List (Nat × Bool)).lookup c
def is_NoBook : Nat → Option Bool := fun c => ([(1, true), (2, false), (5, false)] : List (Nat × Bool)).lookup c
def is_NoTime : Nat → Option Bool := fun c => ([(1, false), (2, true), (5, false)] : List (Nat × Bool)).lookup c
def is_NoShare : Nat → Option Bool := fun c => ([(1, false), (2, false), (5, false)] : List (Nat × Bool)).lookup c
def is_NoParts : Nat → Option Bool := fun c => ([(1, false), (2, false), (5, false)] : List (Nat × Bool)).lookup c
def is_NoPlain : Nat → Option Bool := fun c => ([(1, false), (2, false), (5, true)] : List (Nat × Bool)).lookup c
def is_NoKind : Nat → Option Bool := fun c => ([(1, false), (2, false), (5, false)] : List (Nat × Bool)).lookup c
def is_NoMarks : Nat → Option Bool := fun c => ([(1, false), (2, false), (5, false)] : List (Nat × Bool)).lookup c
def is_NoWord : Nat → Option Bool := fun c => ([(1, false), (2, false), (5, false)] : List (Nat × Bool)).lookup c
def is_NoFull : Nat → Option Bool := fun c => ([(1, false), (2, false), (5, false)] : List (Nat × Bool)).lookup c
def is_NoNumber : Nat → Option Bool := fun c => ([(1, false), (2, false), (5, false)] : List (Nat × Bool)).lookup c
def is_NoBand : Nat → Option Bool := fun c => ([(1, false), (2, false), (5, false)] : List (Nat × Bool)).lookup c
def is_NoName : Nat → Option Bool := fun c => ([(1, false), (2, false), (5, false)] : List (Nat × Bool)).lookup c
def is_NoDay : Nat → Option Bool := fun c => ([(1, false), (2, false), (5, false)] : List (Nat × Bool)).lookup c
def is_NoDeed : Nat → Option Bool := fun c => ([(1, false), (2, false), (5, false)] : List (Nat × Bool)).lookup c
def is_NoFraction : Nat → Option Bool := fun c => ([(1, false), (2, false), (5, false)] : List (Nat × Bool)).lookup c
def is_NoText : Nat → Option Bool := fun c => ([(1, false), (2, false), (5, false)] : List (Nat × Bool)).lookup c
def is_NoLine : Nat → Option Bool := fun c => ([(1, false), (2, false), (5, false)] : List (Nat × Bool)).lookup c
def is_TooMany : Nat → Option Bool := fun c => ([(1, false), (2, false), (5, false)] : List (Nat × Bool)).lookup c
def is_ValueError : Nat → Option Bool := fun c => ([(1, true), (2, true), (5, true)] : List (Nat × Bool)).lookup c
def fb1__law_pot : SM :=
    (seqM (asgM 3 (op2M dMod (op2M dMul (op2M dPlus (op2M dPlus (op2M dMod (nmM 0) (cM (.int 2147483629))) (op2M dMul (cM (.int 7919)) (nmM 2))) (cM (.int 1))) (cM (.int 48271))) (cM (.int 2147483647))))
    (seqM (asgM 3 (op2M dMod (op2M dPlus (op2M dPlus (op2M dMul (nmM 3) (nmM 3)) (op2M dMul (cM (.int 69621)) (nmM 2))) (cM (.int 7))) (cM (.int 2147483587))))
    (asgM 1 (op2M dPlus (op2M dMul (nmM 1) (cM (.int 2147483587))) (nmM 3)))))
def pr__law_pot (i : Nat) : Bool := [0].contains i
def m__law_pot : SM :=
    (seqM (ifM (tsM (op2M dGe (nmM 0) (op2M dPow (cM (.int 10)) (cM (.int 18))))) (retM 1 (lstM (consD (op2M dMinus (nmM 0) (op2M dPow (cM (.int 10)) (cM (.int 18)))) nilA))) skipM)
    (seqM (asgM 1 (cM (.int 0)))
    (seqM (forM (irM1 (cM (.int 64))) (gnM 2) fb1__law_pot)
    (retM 1 (lstM (consD (nmM 1) nilA))))))
def sem__law_pot : Sem := runD 1 4 pr__law_pot m__law_pot
theorem run__law_pot (a0 : R) : sem__law_pot [a0] = fnR 1 pr__law_pot (m__law_pot [some a0, none, none, none]) := by
  unfold sem__law_pot
  exact runD_eq 1 4 pr__law_pot m__law_pot _ _ rfl rfl
def pr__law_take (i : Nat) : Bool := [0, 1].contains i
def m__law_take : SM :=
    (seqM (asgM 2 (op2M dMod (op2M dIxA (nmM 0) (cM (.int 0))) (nmM 1)))
    (seqM (setM 0 (cM (.int 0)) (op2M dFd (op2M dIxA (nmM 0) (cM (.int 0))) (nmM 1)))
    (retM 2 (nmM 2))))
def sem__law_take : Sem := runD 2 3 pr__law_take m__law_take
theorem run__law_take (a0 a1 : R) : sem__law_take [a0, a1] = fnR 2 pr__law_take (m__law_take [some a0, some a1, none]) := by
  unfold sem__law_take
  exact runD_eq 2 3 pr__law_take m__law_take _ _ rfl rfl
def fb1__law_plain : SM :=
    (seqM (asgM 5 (op2M dIxA (lstM (consD (op2M dPlus (cM (.int 1)) (callM sem__law_take (consA (nmM 0) (consA (nmM 2) nilA)))) (consD (op2M dPlus (cM (.int 1)) (callM sem__law_take (consA (nmM 0) (consA (cM (.int 3)) nilA)))) (consD (cM (.int 999)) nilA)))) (opnM (on2 min2D) (consA (cM (.int 2)) (consA (op2M dFd (callM sem__law_take (consA (nmM 0) (consA (cM (.int 9)) nilA))) (cM (.int 4))) nilA)))))
    (appM 3 (tupM (consD (cM (.int 0)) (consD (nmM 5) (consD (op2M dIxA (lstM (consD (cM (.int 0)) (consD (op2M dPlus (cM (.int 1)) (callM sem__law_take (consA (nmM 0) (consA (cM (.int 4)) nilA)))) nilA))) (opnM (on1 intD) (consA (op2M dGt (callM sem__law_take (consA (nmM 0) (consA (cM (.int 3)) nilA))) (cM (.int 0))) nilA))) nilA))))))
def pr__law_plain (i : Nat) : Bool := [0, 1, 2].contains i
def m__law_plain : SM :=
    (seqM (asgM 3 (lstM nilA))
    (seqM (forM (irM1 (op2M dPlus (cM (.int 1)) (callM sem__law_take (consA (nmM 0) (consA (nmM 1) nilA))))) (gnM 4) fb1__law_plain)
    (retM 3 (opnM (on1 tupD) (consA (nmM 3) nilA)))))
def sem__law_plain : Sem := runD 3 6 pr__law_plain m__law_plain
theorem run__law_plain (a0 a1 a2 : R) : sem__law_plain [a0, a1, a2] = fnR 3 pr__law_plain (m__law_plain [some a0, some a1, some a2, none, none, none]) := by
  unfold sem__law_plain
  exact runD_eq 3 6 pr__law_plain m__law_plain _ _ rfl rfl
def ce1__law_mixed : EM :=
    (popM 2 (callM sem__law_take (consA (nmM 0) (consA (opnM (on1 lenD) (consA (nmM 2) nilA)) nilA))))
def pr__law_mixed (i : Nat) : Bool := [0, 1].contains i
def m__law_mixed : SM :=
    (seqM (asgM 2 (opnM (on1 lstD) (consA (nmM 1) nilA)))
    (retM 2 (lcM (iM (nmM 1)) (gnM 3) [3] yesT ce1__law_mixed)))
def sem__law_mixed : Sem := runD 2 4 pr__law_mixed m__law_mixed
theorem run__law_mixed (a0 a1 : R) : sem__law_mixed [a0, a1] = fnR 2 pr__law_mixed (m__law_mixed [some a0, some a1, none, none]) := by
  unfold sem__law_mixed
  exact runD_eq 2 4 pr__law_mixed m__law_mixed _ _ rfl rfl
def pr__law_cell_at (i : Nat) : Bool := [0, 1].contains i
def m__law_cell_at : SM :=
    (seqM (ifM (tsM (op2M dLt (nmM 1) (opnM (on1 lenD) (consA (nmM 0) nilA)))) (retM 2 (op2M dIxA (nmM 0) (nmM 1))) skipM)
    (retM 2 (cM (.int 0))))
def sem__law_cell_at : Sem := runD 2 2 pr__law_cell_at m__law_cell_at
theorem run__law_cell_at (a0 a1 : R) : sem__law_cell_at [a0, a1] = fnR 2 pr__law_cell_at (m__law_cell_at [some a0, some a1]) := by
  unfold sem__law_cell_at
  exact runD_eq 2 2 pr__law_cell_at m__law_cell_at _ _ rfl rfl
def pr_is_whole (i : Nat) : Bool := [0].contains i
def m_is_whole : SM :=
    (retM 1 (andM (op1M (isiD "int") (nmM 0)) (notM (op1M (isiD "bool") (nmM 0)))))
def sem_is_whole : Sem := runD 1 1 pr_is_whole m_is_whole
theorem run_is_whole (a0 : R) : sem_is_whole [a0] = fnR 1 pr_is_whole (m_is_whole [some a0]) := by
  unfold sem_is_whole
  exact runD_eq 1 1 pr_is_whole m_is_whole _ _ rfl rfl
def pr_is_from_to (i : Nat) : Bool := [0, 1, 2].contains i
def m_is_from_to : SM :=
    (retM 3 (andM (callM sem_is_whole (consA (nmM 0) nilA)) (chM dLe dLe (nmM 1) (nmM 0) (nmM 2))))
def sem_is_from_to : Sem := runD 3 3 pr_is_from_to m_is_from_to
theorem run_is_from_to (a0 a1 a2 : R) : sem_is_from_to [a0, a1, a2] = fnR 3 pr_is_from_to (m_is_from_to [some a0, some a1, some a2]) := by
  unfold sem_is_from_to
  exact runD_eq 3 3 pr_is_from_to m_is_from_to _ _ rfl rfl
def pr_is_lasting (i : Nat) : Bool := [0, 1].contains i
def m_is_lasting : SM :=
    (seqM (ifM (orT (notT (tsM (op1M (isiD "tuple") (nmM 0)))) (orT (tsM (op2M dNe (opnM (on1 lenD) (consA (nmM 0) nilA)) (cM (.int 3)))) (notT (tsM (callM sem_is_from_to (consA (op2M dIxA (nmM 0) (cM (.int 0))) (consA (cM (.int 0)) (consA (nmM 1) nilA)))))))) (retM 2 (cM (.bool false))) skipM)
    (retM 2 (andM (callM sem_is_from_to (consA (op2M dIxA (nmM 0) (cM (.int 1))) (consA (op2M dPlus (op2M dIxA (nmM 0) (cM (.int 0))) (cM (.int 1))) (consA (nmM 1) nilA)))) (callM sem_is_from_to (consA (op2M dIxA (nmM 0) (cM (.int 2))) (consA (cM (.int 0)) (consA (opnM (on1 lenD) (consA (cM k_KINDS) nilA)) nilA)))))))
def sem_is_lasting : Sem := runD 2 2 pr_is_lasting m_is_lasting
theorem run_is_lasting (a0 a1 : R) : sem_is_lasting [a0, a1] = fnR 2 pr_is_lasting (m_is_lasting [some a0, some a1]) := by
  unfold sem_is_lasting
  exact runD_eq 2 2 pr_is_lasting m_is_lasting _ _ rfl rfl
def pr_is_span (i : Nat) : Bool := [0].contains i
def m_is_span : SM :=
    (retM 1 (callM sem_is_lasting (consA (nmM 0) (consA (cM k_MOST_AGE) nilA))))
def sem_is_span : Sem := runD 1 1 pr_is_span m_is_span
theorem run_is_span (a0 : R) : sem_is_span [a0] = fnR 1 pr_is_span (m_is_span [some a0]) := by
  unfold sem_is_span
  exact runD_eq 1 1 pr_is_span m_is_span _ _ rfl rfl
def ce1_is_book : EM :=
    (callM sem_is_span (consA (nmM 1) nilA))
def pr_is_book (i : Nat) : Bool := [0].contains i
def m_is_book : SM :=
    (seqM (ifM (orT (notT (tsM (op1M (isiD "tuple") (nmM 0)))) (notT (tsM (chM dLe dLe (cM (.int 1)) (opnM (on1 lenD) (consA (nmM 0) nilA)) (cM k_MOST_SPANS))))) (retM 1 (cM (.bool false))) skipM)
    (retM 1 (opnM (on1 allD) (consA (lcM (iM (nmM 0)) (gnM 1) [1] yesT ce1_is_book) nilA))))
def sem_is_book : Sem := runD 1 2 pr_is_book m_is_book
theorem run_is_book (a0 : R) : sem_is_book [a0] = fnR 1 pr_is_book (m_is_book [some a0, none]) := by
  unfold sem_is_book
  exact runD_eq 1 2 pr_is_book m_is_book _ _ rfl rfl
def pr_need_book (i : Nat) : Bool := [0].contains i
def m_need_book : SM :=
    (ifM (notT (tsM (callM sem_is_book (consA (nmM 0) nilA)))) (raiseM 1) skipM)
def sem_need_book : Sem := runD 1 1 pr_need_book m_need_book
theorem run_need_book (a0 : R) : sem_need_book [a0] = fnR 1 pr_need_book (m_need_book [some a0]) := by
  unfold sem_need_book
  exact runD_eq 1 1 pr_need_book m_need_book _ _ rfl rfl
def ce1_need_plain : EM :=
    (op2M dGt (nmM 1) (cM (.int 0)))
def pr_need_plain (i : Nat) : Bool := [0].contains i
def m_need_plain : SM :=
    (seqM (dropM (callM sem_need_book (consA (nmM 0) nilA)))
    (ifM (tsM (opnM (on1 anyD) (consA (lcM (iM (nmM 0)) (gtM (gsC (gnM 1) (gsC (gnM 2) (gsC (gnM 3) gs0)))) [1, 2, 3] yesT ce1_need_plain) nilA))) (raiseM 5) skipM))
def sem_need_plain : Sem := runD 1 4 pr_need_plain m_need_plain
theorem run_need_plain (a0 : R) : sem_need_plain [a0] = fnR 1 pr_need_plain (m_need_plain [some a0, none, none, none]) := by
  unfold sem_need_plain
  exact runD_eq 1 4 pr_need_plain m_need_plain _ _ rfl rfl
def pr_is_true_of (i : Nat) : Bool := [0, 1].contains i
def m_is_true_of : SM :=
    (seqM (ifM (notT (tsM (callM sem_is_lasting (consA (nmM 1) (consA (cM k_LATEST) nilA))))) (retM 2 (cM (.bool false))) skipM)
    (seqM (ifM (tsM (op2M dGt (op2M dIxA (nmM 0) (cM (.int 2))) (cM (.int 0)))) (retM 2 (op2M dEq (nmM 1) (nmM 0))) skipM)
    (retM 2 (andM (op2M dEq (op2M dIxA (nmM 1) (cM (.int 0))) (cM (.int 0))) (andM (op2M dGt (op2M dIxA (nmM 1) (cM (.int 1))) (op2M dIxA (nmM 0) (cM (.int 1)))) (op2M dGt (op2M dIxA (nmM 1) (cM (.int 2))) (cM (.int 0))))))))
def sem_is_true_of : Sem := runD 2 2 pr_is_true_of m_is_true_of
theorem run_is_true_of (a0 a1 : R) : sem_is_true_of [a0, a1] = fnR 2 pr_is_true_of (m_is_true_of [some a0, some a1]) := by
  unfold sem_is_true_of
  exact runD_eq 2 2 pr_is_true_of m_is_true_of _ _ rfl rfl
def ce1_is_truth_by : EM :=
    (callM sem_is_true_of (consA (nmM 2) (consA (nmM 3) nilA)))
def pr_is_truth_by (i : Nat) : Bool := [0, 1].contains i
def m_is_truth_by : SM :=
    (seqM (ifM (orT (notT (tsM (op1M (isiD "tuple") (nmM 1)))) (tsM (op2M dNe (opnM (on1 lenD) (consA (nmM 1) nilA)) (opnM (on1 lenD) (consA (nmM 0) nilA))))) (retM 2 (cM (.bool false))) skipM)
    (retM 2 (opnM (on1 allD) (consA (lcM (izM (consD (nmM 0) (consD (nmM 1) nilA))) (gtM (gsC (gnM 2) (gsC (gnM 3) gs0))) [2, 3] yesT ce1_is_truth_by) nilA))))
def sem_is_truth_by : Sem := runD 2 4 pr_is_truth_by m_is_truth_by
theorem run_is_truth_by (a0 a1 : R) : sem_is_truth_by [a0, a1] = fnR 2 pr_is_truth_by (m_is_truth_by [some a0, some a1, none, none]) := by
  unfold sem_is_truth_by
  exact runD_eq 2 4 pr_is_truth_by m_is_truth_by _ _ rfl rfl
def pr_is_truth (i : Nat) : Bool := [0, 1].contains i
def m_is_truth : SM :=
    (seqM (dropM (callM sem_need_plain (consA (nmM 0) nilA)))
    (retM 2 (callM sem_is_truth_by (consA (nmM 0) (consA (nmM 1) nilA)))))
def sem_is_truth : Sem := runD 2 2 pr_is_truth m_is_truth
theorem run_is_truth (a0 a1 : R) : sem_is_truth [a0, a1] = fnR 2 pr_is_truth (m_is_truth [some a0, some a1]) := by
  unfold sem_is_truth
  exact runD_eq 2 2 pr_is_truth m_is_truth _ _ rfl rfl
def ce1_soonest_by : EM :=
    (iteM (tsM (op2M dGt (nmM 3) (cM (.int 0)))) (tupM (consD (nmM 1) (consD (nmM 2) (consD (nmM 3) nilA)))) (tupM (consD (cM (.int 0)) (consD (op2M dPlus (nmM 2) (cM (.int 1))) (consD (cM (.int 1)) nilA)))))
def pr_soonest_by (i : Nat) : Bool := [0].contains i
def m_soonest_by : SM :=
    (retM 1 (opnM (on1 tupD) (consA (lcM (iM (nmM 0)) (gtM (gsC (gnM 1) (gsC (gnM 2) (gsC (gnM 3) gs0)))) [1, 2, 3] yesT ce1_soonest_by) nilA)))
def sem_soonest_by : Sem := runD 1 4 pr_soonest_by m_soonest_by
theorem run_soonest_by (a0 : R) : sem_soonest_by [a0] = fnR 1 pr_soonest_by (m_soonest_by [some a0, none, none, none]) := by
  unfold sem_soonest_by
  exact runD_eq 1 4 pr_soonest_by m_soonest_by _ _ rfl rfl
def pr_soonest (i : Nat) : Bool := [0].contains i
def m_soonest : SM :=
    (seqM (dropM (callM sem_need_plain (consA (nmM 0) nilA)))
    (retM 1 (callM sem_soonest_by (consA (nmM 0) nilA))))
def sem_soonest : Sem := runD 1 1 pr_soonest m_soonest
theorem run_soonest (a0 : R) : sem_soonest [a0] = fnR 1 pr_soonest (m_soonest [some a0]) := by
  unfold sem_soonest
  exact runD_eq 1 1 pr_soonest m_soonest _ _ rfl rfl
def ce1_latest_by : EM :=
    (iteM (tsM (op2M dGt (nmM 3) (cM (.int 0)))) (tupM (consD (nmM 1) (consD (nmM 2) (consD (nmM 3) nilA)))) (tupM (consD (cM (.int 0)) (consD (cM k_LATEST) (consD (cM (.int 1)) nilA)))))
def pr_latest_by (i : Nat) : Bool := [0].contains i
def m_latest_by : SM :=
    (retM 1 (opnM (on1 tupD) (consA (lcM (iM (nmM 0)) (gtM (gsC (gnM 1) (gsC (gnM 2) (gsC (gnM 3) gs0)))) [1, 2, 3] yesT ce1_latest_by) nilA)))
def sem_latest_by : Sem := runD 1 4 pr_latest_by m_latest_by
theorem run_latest_by (a0 : R) : sem_latest_by [a0] = fnR 1 pr_latest_by (m_latest_by [some a0, none, none, none]) := by
  unfold sem_latest_by
  exact runD_eq 1 4 pr_latest_by m_latest_by _ _ rfl rfl
def pr_latest (i : Nat) : Bool := [0].contains i
def m_latest : SM :=
    (seqM (dropM (callM sem_need_plain (consA (nmM 0) nilA)))
    (retM 1 (callM sem_latest_by (consA (nmM 0) nilA))))
def sem_latest : Sem := runD 1 1 pr_latest m_latest
theorem run_latest (a0 : R) : sem_latest [a0] = fnR 1 pr_latest (m_latest [some a0]) := by
  unfold sem_latest
  exact runD_eq 1 1 pr_latest m_latest _ _ rfl rfl
def pr__law_refusal (i : Nat) : Bool := [0].contains i
def m__law_refusal : SM :=
    (seqM (asgM 1 (lstM (consD (isEM is_NoBook (nmM 0)) (consD (isEM is_NoTime (nmM 0)) (consD (isEM is_NoShare (nmM 0)) (consD (isEM is_NoParts (nmM 0)) nilA))))))
    (seqM (asgM 1 (op2M dPlus (nmM 1) (lstM (consD (isEM is_NoPlain (nmM 0)) (consD (isEM is_NoKind (nmM 0)) (consD (isEM is_NoMarks (nmM 0)) (consD (isEM is_NoWord (nmM 0)) nilA)))))))
    (seqM (asgM 1 (op2M dPlus (nmM 1) (lstM (consD (isEM is_NoFull (nmM 0)) (consD (isEM is_NoNumber (nmM 0)) (consD (isEM is_NoBand (nmM 0)) (consD (isEM is_NoName (nmM 0)) nilA)))))))
    (seqM (asgM 1 (op2M dPlus (nmM 1) (lstM (consD (isEM is_NoDay (nmM 0)) (consD (isEM is_NoDeed (nmM 0)) (consD (isEM is_NoFraction (nmM 0)) (consD (isEM is_NoText (nmM 0)) nilA)))))))
    (seqM (asgM 1 (op2M dPlus (nmM 1) (lstM (consD (isEM is_NoLine (nmM 0)) (consD (isEM is_TooMany (nmM 0)) nilA)))))
    (seqM (asgM 2 (lstM (consD (cM (.str "book")) (consD (cM (.str "time")) (consD (cM (.str "share")) (consD (cM (.str "parts")) (consD (cM (.str "plain")) (consD (cM (.str "kind")) (consD (cM (.str "marks")) (consD (cM (.str "word")) (consD (cM (.str "full")) (consD (cM (.str "number")) (consD (cM (.str "band")) (consD (cM (.str "name")) nilA))))))))))))))
    (seqM (asgM 2 (op2M dPlus (nmM 2) (lstM (consD (cM (.str "day")) (consD (cM (.str "deed")) (consD (cM (.str "fraction")) (consD (cM (.str "text")) (consD (cM (.str "line")) (consD (cM (.str "many")) nilA)))))))))
    (seqM (ifM (orT (tsM (op2M dNe (lmM dCnt (nmM 1) (cM (.bool true))) (cM (.int 1)))) (notT (tsM (isEM is_ValueError (nmM 0))))) (retM 1 (cM (.str "other"))) skipM)
    (retM 1 (op2M dIxA (nmM 2) (lmM dIdx (nmM 1) (cM (.bool true)))))))))))))
def sem__law_refusal : Sem := runD 1 3 pr__law_refusal m__law_refusal
def sh__law_said : SM :=
    (retM 1 (tupM (consD (callM (semX sem__law_refusal) (consA (nmM 1) nilA)) nilA)))
def wd__law_said : Nat → List PyData → Option PyData := suitD 2 1 sh__law_said
def lb1__law_alone : EM :=
    (callM sem_is_truth (consA (nmM 0) (consA (nmM 1) nilA)))
def lb2__law_alone : EM :=
    (callM sem_soonest (consA (nmM 0) nilA))
def lb3__law_alone : EM :=
    (callM sem_latest (consA (nmM 0) nilA))
def pr__law_alone (i : Nat) : Bool := [0, 1].contains i
def m__law_alone : SM :=
    (lamsM 2 2 3 mt_SpanError wd__law_said [lb1__law_alone, lb2__law_alone, lb3__law_alone])
def sem__law_alone : Sem := runD 2 4 pr__law_alone m__law_alone
theorem run__law_alone (a0 a1 : R) : sem__law_alone [a0, a1] = fnR 2 pr__law_alone (m__law_alone [some a0, some a1, none, none]) := by
  unfold sem__law_alone
  exact runD_eq 2 4 pr__law_alone m__law_alone _ _ rfl rfl
def pr__law_odd (i : Nat) : Bool := [0].contains i
def m__law_odd : SM :=
    (seqM (asgM 1 (lstM (consD (cM .none) (consD (cM (.bool true)) (consD (cM (.bool false)) (consD (op1M dNeg (cM (.int 1))) (consD (op2M dPow (cM (.int 10)) (cM (.int 11))) (consD (cM (.str "")) (consD (cM (.str "a")) (consD (cM (.str "1")) (consD (tupM nilA) (consD (lstM nilA) (consD dict0M (consD (tupM (consD (cM (.int 0)) (consD (cM (.int 1)) nilA))) (consD (tupM (consD (tupM (consD (cM (.int 0)) (consD (cM (.int 1)) (consD (cM (.int 1)) nilA)))) nilA)) (consD (tupM (consD (cM (.int 1)) (consD (cM (.int 2)) nilA))) (consD (lstM (consD (cM (.int 0)) nilA)) (consD (dctM [((cM (.int 0)), (cM (.int 1)))]) nilA))))))))))))))))))
    (retM 1 (op2M dIxA (nmM 1) (callM sem__law_take (consA (nmM 0) (consA (cM (.int 16)) nilA))))))
def sem__law_odd : Sem := runD 1 2 pr__law_odd m__law_odd
theorem run__law_odd (a0 : R) : sem__law_odd [a0] = fnR 1 pr__law_odd (m__law_odd [some a0, none]) := by
  unfold sem__law_odd
  exact runD_eq 1 2 pr__law_odd m__law_odd _ _ rfl rfl
def pr__law_no_books (i : Nat) : Bool := ([] : List Nat).contains i
def m__law_no_books : SM :=
    (seqM (asgM 0 (lstM (consD (cM .none) (consD (tupM nilA) (consD (lstM (consD (tupM (consD (cM (.int 0)) (consD (cM (.int 1)) (consD (cM (.int 0)) nilA)))) nilA)) (consD (tupM (consD (tupM (consD (cM (.int 0)) (consD (cM (.int 0)) (consD (cM (.int 1)) nilA)))) nilA)) (consD (tupM (consD (tupM (consD (cM (.int 0)) (consD (cM (.int 1000)) (consD (cM (.int 0)) nilA)))) nilA)) (consD (tupM (consD (tupM (consD (cM (.int 0)) (consD (cM (.int 5)) (consD (cM (.int 5)) nilA)))) nilA)) (consD (tupM (consD (tupM (consD (cM (.int 0)) (consD (cM (.int 5)) (consD (cM (.bool true)) nilA)))) nilA)) nilA)))))))))
    (seqM (asgM 0 (op2M dPlus (nmM 0) (lstM (consD (tupM (consD (tupM (consD (op1M dNeg (cM (.int 1))) (consD (cM (.int 5)) (consD (cM (.int 0)) nilA)))) nilA)) (consD (tupM (consD (tupM (consD (cM (.int 0)) (consD (cM (.int 5)) nilA))) nilA)) nilA)))))
    (retM 0 (op2M dPlus (nmM 0) (lstM (consD (op2M dMulA (tupM (consD (tupM (consD (cM (.int 0)) (consD (cM (.int 1)) (consD (cM (.int 1)) nilA)))) nilA)) (cM (.int 41))) (consD (cM (.str "0-1")) (consD dict0M (consD (tupM (consD (tupM (consD (cM (.int 5)) (consD (cM (.int 5)) (consD (cM (.int 0)) nilA)))) nilA)) (consD (tupM (consD (lstM (consD (cM (.int 0)) (consD (cM (.int 5)) (consD (cM (.int 1)) nilA)))) nilA)) (consD (tupM (consD (tupM (consD (cM (.int 0)) (consD (cM (.int 5)) (consD (cM (.int 1)) nilA)))) (consD (cM .none) nilA))) nilA)))))))))))
def sem__law_no_books : Sem := runD 0 1 pr__law_no_books m__law_no_books
def pr_is_less (i : Nat) : Bool := [0, 1].contains i
def m_is_less : SM :=
    (retM 2 (op2M dLt (op2M dMul (op2M dIxA (nmM 0) (cM (.int 0))) (op2M dIxA (nmM 1) (cM (.int 1)))) (op2M dMul (op2M dIxA (nmM 1) (cM (.int 0))) (op2M dIxA (nmM 0) (cM (.int 1))))))
def sem_is_less : Sem := runD 2 2 pr_is_less m_is_less
theorem run_is_less (a0 a1 : R) : sem_is_less [a0, a1] = fnR 2 pr_is_less (m_is_less [some a0, some a1]) := by
  unfold sem_is_less
  exact runD_eq 2 2 pr_is_less m_is_less _ _ rfl rfl
def wt1_common : Rho → Option (Oe Bool) :=
    (tsM (op2M dNe (nmM 1) (cM (.int 0))))
def wb1_common : SM :=
    (parM 0 1 (nmM 1) (op2M dMod (nmM 0) (nmM 1)))
def pr_common (i : Nat) : Bool := ([] : List Nat).contains i
def m_common : SM :=
    (seqM (whM wt1_common wb1_common)
    (retM 2 (opnM (on1 absD) (consA (nmM 0) nilA))))
def sem_common : Sem := runD 2 2 pr_common m_common
theorem run_common (a0 a1 : R) : sem_common [a0, a1] = fnR 2 pr_common (m_common [some a0, some a1]) := by
  unfold sem_common
  exact runD_eq 2 2 pr_common m_common _ _ rfl rfl
def pr_put (i : Nat) : Bool := [0, 1].contains i
def m_put : SM :=
    (seqM (asgM 2 (op2M dMul (callM sem_common (consA (nmM 0) (consA (nmM 1) nilA))) (iteM (tsM (op2M dGt (nmM 1) (cM (.int 0)))) (cM (.int 1)) (op1M dNeg (cM (.int 1))))))
    (retM 2 (tupM (consD (op2M dFd (nmM 0) (nmM 2)) (consD (op2M dFd (nmM 1) (nmM 2)) nilA)))))
def sem_put : Sem := runD 2 3 pr_put m_put
theorem run_put (a0 a1 : R) : sem_put [a0, a1] = fnR 2 pr_put (m_put [some a0, some a1, none]) := by
  unfold sem_put
  exact runD_eq 2 3 pr_put m_put _ _ rfl rfl
def cc1_lasting : Rho → Option (Oe Bool) :=
    (tsM (op2M dGt (nmM 3) (nmM 1)))
def ce1_lasting : EM :=
    (cM (.int 1))
def pr_lasting (i : Nat) : Bool := [0, 1].contains i
def m_lasting : SM :=
    (retM 2 (callM sem_put (consA (opnM (on1 lenD) (consA (lcM (iM (nmM 0)) (gtM (gsC (gnM 2) (gsC (gnM 3) (gsC (gnM 4) gs0)))) [2, 3, 4] cc1_lasting ce1_lasting) nilA)) (consA (opnM (on1 lenD) (consA (nmM 0) nilA)) nilA))))
def sem_lasting : Sem := runD 2 5 pr_lasting m_lasting
theorem run_lasting (a0 a1 : R) : sem_lasting [a0, a1] = fnR 2 pr_lasting (m_lasting [some a0, some a1, none, none, none]) := by
  unfold sem_lasting
  exact runD_eq 2 5 pr_lasting m_lasting _ _ rfl rfl
def ce1_first_less : EM :=
    (nmM 4)
def fb1_first_less : SM :=
    (ifM (tsM (callM sem_is_less (consA (callM sem_lasting (consA (nmM 0) (consA (nmM 2) nilA))) (consA (callM sem_lasting (consA (nmM 1) (consA (nmM 2) nilA))) nilA)))) (retM 2 (nmM 2)) skipM)
def pr_first_less (i : Nat) : Bool := [0, 1].contains i
def m_first_less : SM :=
    (seqM (forM (iM (sortSM (scM (iM (op2M dPlus (nmM 0) (nmM 1))) (gtM (gsC (gnM 3) (gsC (gnM 4) (gsC (gnM 5) gs0)))) [3, 4, 5] yesT ce1_first_less))) (gnM 2) fb1_first_less)
    (retM 2 (cM .none)))
def sem_first_less : Sem := runD 2 6 pr_first_less m_first_less
theorem run_first_less (a0 a1 : R) : sem_first_less [a0, a1] = fnR 2 pr_first_less (m_first_less [some a0, some a1, none, none, none, none]) := by
  unfold sem_first_less
  exact runD_eq 2 6 pr_first_less m_first_less _ _ rfl rfl
def pr_may_outlast (i : Nat) : Bool := [0, 1].contains i
def m_may_outlast : SM :=
    (seqM (dropM (callM sem_need_plain (consA (nmM 0) nilA)))
    (seqM (dropM (callM sem_need_plain (consA (nmM 1) nilA)))
    (seqM (parM 3 4 (callM sem_latest_by (consA (nmM 0) nilA)) (callM sem_soonest_by (consA (nmM 1) nilA)))
    (seqM (asgM 2 (callM sem_first_less (consA (nmM 3) (consA (nmM 4) nilA))))
    (retM 2 (iteM (tsM (op2M dIsN (nmM 2) (cM .none))) (tupM (consD (cM (.str "may")) (consD (nmM 3) (consD (nmM 4) nilA)))) (tupM (consD (cM (.str "never")) (consD (nmM 2) nilA)))))))))
def sem_may_outlast : Sem := runD 2 5 pr_may_outlast m_may_outlast
theorem run_may_outlast (a0 a1 : R) : sem_may_outlast [a0, a1] = fnR 2 pr_may_outlast (m_may_outlast [some a0, some a1, none, none, none]) := by
  unfold sem_may_outlast
  exact runD_eq 2 5 pr_may_outlast m_may_outlast _ _ rfl rfl
def pr_must_outlast (i : Nat) : Bool := [0, 1].contains i
def m_must_outlast : SM :=
    (seqM (dropM (callM sem_need_plain (consA (nmM 0) nilA)))
    (seqM (dropM (callM sem_need_plain (consA (nmM 1) nilA)))
    (seqM (parM 3 4 (callM sem_soonest_by (consA (nmM 0) nilA)) (callM sem_latest_by (consA (nmM 1) nilA)))
    (seqM (asgM 2 (callM sem_first_less (consA (nmM 3) (consA (nmM 4) nilA))))
    (retM 2 (iteM (tsM (op2M dIsN (nmM 2) (cM .none))) (tupM (consD (cM (.str "must")) nilA)) (tupM (consD (cM (.str "not")) (consD (nmM 3) (consD (nmM 4) (consD (nmM 2) nilA)))))))))))
def sem_must_outlast : Sem := runD 2 5 pr_must_outlast m_must_outlast
theorem run_must_outlast (a0 a1 : R) : sem_must_outlast [a0, a1] = fnR 2 pr_must_outlast (m_must_outlast [some a0, some a1, none, none, none]) := by
  unfold sem_must_outlast
  exact runD_eq 2 5 pr_must_outlast m_must_outlast _ _ rfl rfl
def pr_are_truths (i : Nat) : Bool := [0, 1, 2].contains i
def m_are_truths : SM :=
    (seqM (ifM (orT (notT (tsM (op1M (isiD "tuple") (nmM 2)))) (tsM (op2M dNe (opnM (on1 lenD) (consA (nmM 2) nilA)) (cM (.int 2))))) (retM 3 (cM (.bool false))) skipM)
    (retM 3 (andM (callM sem_is_truth_by (consA (nmM 0) (consA (op2M dIxA (nmM 2) (cM (.int 0))) nilA))) (callM sem_is_truth_by (consA (nmM 1) (consA (op2M dIxA (nmM 2) (cM (.int 1))) nilA))))))
def sem_are_truths : Sem := runD 3 3 pr_are_truths m_are_truths
theorem run_are_truths (a0 a1 a2 : R) : sem_are_truths [a0, a1, a2] = fnR 3 pr_are_truths (m_are_truths [some a0, some a1, some a2]) := by
  unfold sem_are_truths
  exact runD_eq 3 3 pr_are_truths m_are_truths _ _ rfl rfl
def pr_shows_may (i : Nat) : Bool := [0, 1, 2].contains i
def m_shows_may : SM :=
    (seqM (dropM (callM sem_need_plain (consA (nmM 0) nilA)))
    (seqM (dropM (callM sem_need_plain (consA (nmM 1) nilA)))
    (retM 3 (andM (callM sem_are_truths (consA (nmM 0) (consA (nmM 1) (consA (nmM 2) nilA)))) (op2M dIsN (callM sem_first_less (consA (op2M dIxA (nmM 2) (cM (.int 0))) (consA (op2M dIxA (nmM 2) (cM (.int 1))) nilA))) (cM .none))))))
def sem_shows_may : Sem := runD 3 3 pr_shows_may m_shows_may
theorem run_shows_may (a0 a1 a2 : R) : sem_shows_may [a0, a1, a2] = fnR 3 pr_shows_may (m_shows_may [some a0, some a1, some a2]) := by
  unfold sem_shows_may
  exact runD_eq 3 3 pr_shows_may m_shows_may _ _ rfl rfl
def pr_shows_never (i : Nat) : Bool := [0, 1, 2].contains i
def m_shows_never : SM :=
    (seqM (dropM (callM sem_need_plain (consA (nmM 0) nilA)))
    (seqM (dropM (callM sem_need_plain (consA (nmM 1) nilA)))
    (seqM (ifM (notT (tsM (callM sem_is_from_to (consA (nmM 2) (consA (cM (.int 0)) (consA (cM k_MOST_TIME) nilA)))))) (retM 3 (cM (.bool false))) skipM)
    (retM 3 (callM sem_is_less (consA (callM sem_lasting (consA (callM sem_latest_by (consA (nmM 0) nilA)) (consA (nmM 2) nilA))) (consA (callM sem_lasting (consA (callM sem_soonest_by (consA (nmM 1) nilA)) (consA (nmM 2) nilA))) nilA)))))))
def sem_shows_never : Sem := runD 3 3 pr_shows_never m_shows_never
theorem run_shows_never (a0 a1 a2 : R) : sem_shows_never [a0, a1, a2] = fnR 3 pr_shows_never (m_shows_never [some a0, some a1, some a2]) := by
  unfold sem_shows_never
  exact runD_eq 3 3 pr_shows_never m_shows_never _ _ rfl rfl
def pr_shows_not (i : Nat) : Bool := [0, 1, 2].contains i
def m_shows_not : SM :=
    (seqM (dropM (callM sem_need_plain (consA (nmM 0) nilA)))
    (seqM (dropM (callM sem_need_plain (consA (nmM 1) nilA)))
    (retM 3 (andM (callM sem_are_truths (consA (nmM 0) (consA (nmM 1) (consA (nmM 2) nilA)))) (op2M dNotN (callM sem_first_less (consA (op2M dIxA (nmM 2) (cM (.int 0))) (consA (op2M dIxA (nmM 2) (cM (.int 1))) nilA))) (cM .none))))))
def sem_shows_not : Sem := runD 3 3 pr_shows_not m_shows_not
theorem run_shows_not (a0 a1 a2 : R) : sem_shows_not [a0, a1, a2] = fnR 3 pr_shows_not (m_shows_not [some a0, some a1, some a2]) := by
  unfold sem_shows_not
  exact runD_eq 3 3 pr_shows_not m_shows_not _ _ rfl rfl
def lb1__law_words : EM :=
    (callM sem_may_outlast (consA (nmM 0) (consA (nmM 1) nilA)))
def lb2__law_words : EM :=
    (callM sem_must_outlast (consA (nmM 0) (consA (nmM 1) nilA)))
def lb3__law_words : EM :=
    (callM sem_shows_may (consA (nmM 0) (consA (nmM 1) (consA (cM .none) nilA))))
def lb4__law_words : EM :=
    (callM sem_shows_never (consA (nmM 0) (consA (nmM 1) (consA (cM .none) nilA))))
def lb5__law_words : EM :=
    (callM sem_shows_not (consA (nmM 0) (consA (nmM 1) (consA (cM .none) nilA))))
def pr__law_words (i : Nat) : Bool := [0, 1].contains i
def m__law_words : SM :=
    (lamsM 2 2 3 mt_SpanError wd__law_said [lb1__law_words, lb2__law_words, lb3__law_words, lb4__law_words, lb5__law_words])
def sem__law_words : Sem := runD 2 4 pr__law_words m__law_words
theorem run__law_words (a0 a1 : R) : sem__law_words [a0, a1] = fnR 2 pr__law_words (m__law_words [some a0, some a1, none, none]) := by
  unfold sem__law_words
  exact runD_eq 2 4 pr__law_words m__law_words _ _ rfl rfl
def pr__law_whole (i : Nat) : Bool := [0].contains i
def m__law_whole : SM :=
    (retM 1 (andM (op1M (isiD "int") (nmM 0)) (notM (op1M (isiD "bool") (nmM 0)))))
def sem__law_whole : Sem := runD 1 1 pr__law_whole m__law_whole
theorem run__law_whole (a0 : R) : sem__law_whole [a0] = fnR 1 pr__law_whole (m__law_whole [some a0]) := by
  unfold sem__law_whole
  exact runD_eq 1 1 pr__law_whole m__law_whole _ _ rfl rfl
def pr__law_within (i : Nat) : Bool := [0, 1, 2].contains i
def m__law_within : SM :=
    (retM 3 (andM (callM sem__law_whole (consA (nmM 0) nilA)) (chM dLe dLe (nmM 1) (nmM 0) (nmM 2))))
def sem__law_within : Sem := runD 3 3 pr__law_within m__law_within
theorem run__law_within (a0 a1 a2 : R) : sem__law_within [a0, a1, a2] = fnR 3 pr__law_within (m__law_within [some a0, some a1, some a2]) := by
  unfold sem__law_within
  exact runD_eq 3 3 pr__law_within m__law_within _ _ rfl rfl
def pr_need_time (i : Nat) : Bool := [0].contains i
def m_need_time : SM :=
    (ifM (notT (tsM (callM sem_is_from_to (consA (nmM 0) (consA (cM (.int 0)) (consA (cM k_MOST_TIME) nilA)))))) (raiseM 2) skipM)
def sem_need_time : Sem := runD 1 1 pr_need_time m_need_time
theorem run_need_time (a0 : R) : sem_need_time [a0] = fnR 1 pr_need_time (m_need_time [some a0]) := by
  unfold sem_need_time
  exact runD_eq 1 1 pr_need_time m_need_time _ _ rfl rfl
def pr_bounds (i : Nat) : Bool := [0, 1].contains i
def m_bounds : SM :=
    (seqM (dropM (callM sem_need_plain (consA (nmM 0) nilA)))
    (seqM (dropM (callM sem_need_time (consA (nmM 1) nilA)))
    (retM 2 (tupM (consD (callM sem_lasting (consA (callM sem_soonest_by (consA (nmM 0) nilA)) (consA (nmM 1) nilA))) (consD (callM sem_lasting (consA (callM sem_latest_by (consA (nmM 0) nilA)) (consA (nmM 1) nilA))) nilA))))))
def sem_bounds : Sem := runD 2 2 pr_bounds m_bounds
theorem run_bounds (a0 a1 : R) : sem_bounds [a0, a1] = fnR 2 pr_bounds (m_bounds [some a0, some a1]) := by
  unfold sem_bounds
  exact runD_eq 2 2 pr_bounds m_bounds _ _ rfl rfl
def ce1_law : EM :=
    (tupM (consD (nmM 13) (consD (cM (.str "book")) nilA)))
def lb1_law : EM :=
    (callM sem_bounds (consA (nmM 6) (consA (nmM 8) nilA)))
def fb1_law : SM :=
    (seqM (asgM 9 (iteM (andT (tsM (op2M dEq (nmM 7) (cM (.str "told")))) (notT (tsM (callM sem__law_within (consA (nmM 8) (consA (cM (.int 0)) (consA (cM (.int 9999)) nilA))))))) (cM (.str "time")) (nmM 7)))
    (seqM (asgM 10 (opnM (on1 reprD) (consA (tupM (consD (nmM 6) (consD (nmM 8) nilA))) nilA)))
    (ifM (orT (tsM (op2M dNe (op2M dIxA (saidM mt_SpanError wd__law_said lb1_law) (cM (.int 0))) (nmM 9))) (tsM (op2M dNe (opnM (on1 reprD) (consA (tupM (consD (nmM 6) (consD (nmM 8) nilA))) nilA)) (nmM 10)))) (retM 1 (cM (.bool false))) skipM)))
def fb2_law : SM :=
    (seqM (ifM (tsM (op2M dNe (callM sem__law_alone (consA (nmM 6) (consA (callM sem__law_odd (consA (nmM 2) nilA)) nilA))) (repM (lstM (consD (nmM 7) nilA)) (cM (.int 3))))) (retM 1 (cM (.bool false))) skipM)
    (forM (iM (lstM (consD (cM (.int 0)) (consD (cM (.int 9999)) (consD (op1M dNeg (cM (.int 1))) (consD (cM (.int 10000)) (consD (cM (.bool true)) (consD (cM .none) (consD (cM (.str "1")) (consD (tupM (consD (cM (.int 1)) nilA)) (consD (callM sem__law_odd (consA (nmM 2) nilA)) nilA))))))))))) (gnM 8) fb1_law))
def fb3_law : SM :=
    (seqM (parM 9 10 (iteM (tsM (op2M dEq (nmM 7) (cM (.str "told")))) (nmM 12) (nmM 7)) (opnM (on1 reprD) (consA (tupM (consD (nmM 6) (consD (nmM 11) nilA))) nilA)))
    (ifM (orT (tsM (op2M dNe (callM sem__law_words (consA (nmM 6) (consA (nmM 11) nilA))) (repM (lstM (consD (nmM 9) nilA)) (cM (.int 5))))) (tsM (op2M dNe (opnM (on1 reprD) (consA (tupM (consD (nmM 6) (consD (nmM 11) nilA))) nilA)) (nmM 10)))) (retM 1 (cM (.bool false))) skipM))
def fb4_law : SM :=
    (forM (iM (lstM (consD (op2M dIxA (nmM 5) (callM sem__law_take (consA (nmM 2) (consA (opnM (on1 lenD) (consA (nmM 5) nilA)) nilA)))) (consD (op2M dIxA (nmM 5) (cM (.int 0))) (consD (op2M dIxA (nmM 5) (cM (.int 1))) nilA))))) (gtM (gsC (gnM 11) (gsC (gnM 12) gs0))) fb3_law)
def fb5_law : SM :=
    (seqM (asgM 2 (callM sem__law_pot (consA (callM sem__law_cell_at (consA (nmM 0) (consA (nmM 1) nilA))) nilA)))
    (seqM (asgM 3 (callM sem__law_plain (consA (nmM 2) (consA (cM (.int 6)) (consA (cM (.int 20)) nilA)))))
    (seqM (asgM 4 (callM sem__law_mixed (consA (nmM 2) (consA (op2M dPlus (opnM (on1 lstD) (consA (slM (nmM 3) (some (cM (.int 1))) none) nilA)) (lstM (consD (tupM (consD (cM (.int 1)) (consD (cM (.int 7)) (consD (callM sem__law_take (consA (nmM 2) (consA (cM (.int 5)) nilA))) nilA)))) nilA))) nilA))))
    (seqM (asgM 5 (op2M dPlus (lstM (consD (tupM (consD (nmM 3) (consD (cM (.str "told")) nilA))) (consD (tupM (consD (opnM (on1 tupD) (consA (nmM 4) nilA)) (consD (cM (.str "plain")) nilA))) nilA))) (lcM (iM (callM sem__law_no_books nilA)) (gnM 13) [13] yesT ce1_law)))
    (seqM (forM (iM (nmM 5)) (gtM (gsC (gnM 6) (gsC (gnM 7) gs0))) fb2_law)
    (forM (iM (nmM 5)) (gtM (gsC (gnM 6) (gsC (gnM 7) gs0))) fb4_law))))))
def pr_law (i : Nat) : Bool := [0].contains i
def m_law : SM :=
    (seqM (forM (irM1 (opnM (on2 max2D) (consA (cM (.int 1)) (consA (opnM (on2 min2D) (consA (opnM (on1 lenD) (consA (nmM 0) nilA)) (consA (cM (.int 3)) nilA))) nilA)))) (gnM 1) fb5_law)
    (retM 1 (cM (.bool true))))
def sem_law : Sem := runD 1 14 pr_law m_law
theorem run_law (a0 : R) : sem_law [a0] = fnR 1 pr_law (m_law [some a0, none, none, none, none, none, none, none, none, none, none, none, none, none]) := by
  unfold sem_law
  exact runD_eq 1 14 pr_law m_law _ _ rfl rfl
end Lw
namespace Lw
open PySem DL
open L2 hiding Sp
theorem cell_is (ns : List Int) {k : Int} (h : 0 ≤ k) : ∃ c, sem__law_cell_at [.dat (.list (ns.map .int)), .dat (.int k)] = some (.ok (.dat (.int c)) [some (.dat (.list (ns.map .int))), some (.dat (.int k))]) := by
  rw [run__law_cell_at]
  unfold m__law_cell_at
  by_cases c : k < ns.length
  · have e : atI (ns.map PyData.int) k = some (.int (ns[k.toNat]'(by omega))) := by
      rw [atI_nn _ _ h, List.getElem?_map, List.getElem?_eq_getElem (by omega)]
      rfl
    refine ⟨ns[k.toNat]'(by omega), ?_⟩
    simp [c, e, outs_2, pr__law_cell_at]
  · refine ⟨0, ?_⟩
    simp [c, outs_2, pr__law_cell_at]
/-- a pot: one whole number -/
def Pot (p : PyData) : Prop := ∃ a : Int, p = .list [.int a]
/-- ahead of each turn of the pot's loop: j turns done -/
def PotI (c : Int) (xs : List PyData) (ρ : Rho) : Prop := ∃ (j : Nat) (n : Int) (a b : Option R), xs = rngL j (64 - j) ∧ j ≤ 64 ∧ ρ = [some (.dat (.int c)), some (.dat (.int n)), a, b] ∧ 0 ≤ n ∧ n < 2 ^ (32 * j)
theorem pot_turn {c : Int} {x : PyData} {r : List PyData} {ρ : Rho} (h : PotI c (x :: r) ρ) : ∃ ρ1 ρ2, gnM 2 x ρ = some ρ1 ∧ (fb1__law_pot ρ1 = some (.nx ρ2) ∨ fb1__law_pot ρ1 = some (.ct ρ2)) ∧ PotI c r ρ2 := by
  obtain ⟨j, n, a, b, hx, hj, rfl, n0, n1⟩ := h
  have hj2 : j < 64 := by
    rcases Nat.lt_or_ge j 64 with z | z
    · exact z
    · have : 64 - j = 0 := by omega
      rw [this, rngL_zero] at hx
      cases hx
  obtain ⟨m, hm⟩ : ∃ m, 64 - j = m + 1 := ⟨63 - j, by omega⟩
  rw [hm, rngL_succ] at hx
  injection hx with hx1 hx2
  subst hx1
  generalize hc : c.fmod 2147483629 = c0
  have c1 : 0 ≤ c0 := hc ▸ Int.fmod_nonneg_of_pos _ (by decide)
  have c2 : c0 < 2147483629 := hc ▸ Int.fmod_lt_of_pos _ (by decide)
  have e1 := mul_is (i := 7919) (j := (j : Int)) (by omega) (by omega) (by omega) (by omega)
  have e2 := mul_is (i := c0 + 7919 * (j : Int) + 1) (j := 48271) (by omega) (by omega) (by omega) (by omega)
  generalize hx : ((c0 + 7919 * (j : Int) + 1) * 48271).fmod 2147483647 = x
  have x1 : 0 ≤ x := hx ▸ Int.fmod_nonneg_of_pos _ (by decide)
  have x2 : x < 2147483647 := hx ▸ Int.fmod_lt_of_pos _ (by decide)
  have e3 := mul_is (i := x) (j := x) (by omega) (by omega) (by omega) (by omega)
  have e4 := mul_is (i := 69621) (j := (j : Int)) (by omega) (by omega) (by omega) (by omega)
  generalize hy : (x * x + 69621 * (j : Int) + 7).fmod 2147483587 = y
  have y1 : 0 ≤ y := hy ▸ Int.fmod_nonneg_of_pos _ (by decide)
  have y2 : y < 2147483587 := hy ▸ Int.fmod_lt_of_pos _ (by decide)
  have e5 : dMul (.int n) (.int 2147483587) = some (.dat (.int (n * 2147483587))) := by
    rw [dMul_i, if_pos]
    have l1 : n.natAbs.log2 < 32 * j + 1 := log2_lt n0 (Int.lt_trans n1 (by rw [Int.pow_succ]; have : (0 : Int) < 2 ^ (32 * j) := Int.pow_pos (by decide); omega)) (by omega)
    have l2 := log2_lt (i := 2147483587) (n := 32) (by omega) (by omega) (by omega)
    omega
  refine ⟨_, [some (.dat (.int c)), some (.dat (.int (n * 2147483587 + y))), some (.dat (.int j)), some (.dat (.int y))], rfl, .inl ?_, j + 1, _, _, _, ?_, hj2, rfl, ?_, ?_⟩
  · unfold fb1__law_pot
    simp [hc, e1, e2, hx, e3, e4, hy, e5, -dMul_i]
  · have : 64 - (j + 1) = m := by omega
    rw [this, hx2]
    rfl
  · have := Int.mul_nonneg n0 (show (0 : Int) ≤ 2147483587 by decide)
    omega
  · have e : (2 : Int) ^ (32 * (j + 1)) = 2 ^ (32 * j) * 4294967296 := by rw [Nat.mul_succ, Int.pow_add]; rfl
    rw [e]
    have : (0 : Int) < 2 ^ (32 * j) := Int.pow_pos (by decide)
    omega
theorem pot_is (c : Int) : ∃ p, sem__law_pot [.dat (.int c)] = some (.ok (.own p) [some (.dat (.int c))]) ∧ Pot p := by
  rw [run__law_pot]
  unfold m__law_pot
  have pw : dPow (.int 10) (.int 18) = some (.dat (.int (10 ^ 18))) := by simp [dPow]
  by_cases h : (10 : Int) ^ 18 ≤ c
  · refine ⟨.list [.int (c - 10 ^ 18)], ?_, _, rfl⟩
    have h' : (1000000000000000000 : Int) ≤ c := h
    simp [pw, h', outs_1, pr__law_pot]
  · obtain ⟨ρ', e, j, n, a, b, _, _, rfl, _⟩ := forL_inv (g := gnM 2) (body := fb1__law_pot) (PotI c) (rngL 0 64) [some (.dat (.int c)), some (.dat (.int 0)), none, none]
      ⟨0, 0, none, none, rfl, by omega, rfl, by omega, by decide⟩ (fun x r ρ h => pot_turn h)
    refine ⟨.list [.int n], ?_, _, rfl⟩
    have h' : ¬ (1000000000000000000 : Int) ≤ c := h
    have hr := fun ρ => rg1_is (j := 64) ρ (by omega) (by omega)
    simp [pw, h', hr, e, outs_1, pr__law_pot]
theorem take_is {p : PyData} {b : Int} (h : Pot p) (hb : 0 < b) (hb2 : b ≤ 2 ^ 62) :
    ∃ v p', sem__law_take [.own p, .dat (.int b)] = some (.ok (.dat (.int v)) [some (.own p'), some (.dat (.int b))]) ∧ 0 ≤ v ∧ v < b ∧ Pot p' := by
  obtain ⟨a, rfl⟩ := h
  have hb0 : b ≠ 0 := by omega
  have hbl : b.natAbs.log2 < 9000 := Nat.lt_trans (log2_lt (n := 63) (by omega) (by omega) (by decide)) (by decide)
  rw [run__law_take]
  unfold m__law_take
  refine ⟨a.fmod b, .list [.int (a.fdiv b)], ?_, Int.fmod_nonneg_of_pos _ hb, Int.fmod_lt_of_pos _ hb, _, rfl⟩
  simp [atI_nn, hb0, hbl, ixN, outs_2, pr__law_take]
mutual
/-- how many signs at most -/
def wtD : PyData → Nat
  | .none => 13
  | .bool _ => 13
  | .int _ => 13
  | .str _ => 13
  | .list ds => wtL ds + 3
  | .tuple ds => wtL ds + 3
  | .dict _ => 13
def wtL : List PyData → Nat
  | [] => 0
  | d :: r => wtD d + 2 + wtL r
end
mutual
def okD (m : Nat) : PyData → Prop
  | .none => True
  | .bool _ => True
  | .int i => i.natAbs ≤ 100000000000 + 10000 * m
  | .str s => s = "" ∨ s = "a" ∨ s = "1"
  | .list ds => okL m ds
  | .tuple ds => okL m ds
  | .dict ps => ps = [] ∨ ps = [(.int 0, .int 1)]
def okL (m : Nat) : List PyData → Prop
  | [] => True
  | d :: r => okD m d ∧ okL m r
end
mutual
theorem okD_mono {m n : Nat} (l : m ≤ n) : ∀ {d : PyData}, okD m d → okD n d
  | .none, h => h
  | .bool _, h => h
  | .int i, h => by
    have h' : i.natAbs ≤ 100000000000 + 10000 * m := h
    show i.natAbs ≤ 100000000000 + 10000 * n
    omega
  | .str _, h => h
  | .list ds, h => okL_mono l (ds := ds) h
  | .tuple ds, h => okL_mono l (ds := ds) h
  | .dict _, h => h
theorem okL_mono {m n : Nat} (l : m ≤ n) : ∀ {ds : List PyData}, okL m ds → okL n ds
  | [], _ => trivial
  | _ :: _, h => ⟨okD_mono l h.1, okL_mono l h.2⟩
end
/-- a thing among the odd ones -/
structure Od (m W D : Nat) (d : PyData) : Prop where
  o : okD m d
  w : wtD d ≤ W
  d : d.depth ≤ D
theorem Od.mono {m W D m' W' D' : Nat} {d : PyData} (h : Od m W D d) (h1 : m ≤ m') (h2 : W ≤ W') (h3 : D ≤ D') : Od m' W' D' d := ⟨okD_mono h1 h.o, Nat.le_trans h.w h2, Nat.le_trans h.d h3⟩
/-- whether a thing is a whole number -/
def whB : PyData → Bool
  | .int _ => true
  | _ => false
theorem iswhole_d (d : PyData) : sem_is_whole [.dat d] = some (.ok (.dat (.bool (whB d))) [(some (R.dat (d)))]) := by
  rw [run_is_whole]
  unfold m_is_whole
  cases d <;> simp [whB, outs_1, pr_is_whole]
theorem lwhole_d (d : PyData) : sem__law_whole [.dat d] = some (.ok (.dat (.bool (whB d))) [(some (R.dat (d)))]) := by
  rw [run__law_whole]
  unfold m__law_whole
  cases d <;> simp [whB, outs_1, pr__law_whole]
def ftB (l h : Int) : PyData → Bool
  | .int i => decide (l ≤ i) && decide (i ≤ h)
  | _ => false
theorem fromto_d (d : PyData) (l h : Int) : sem_is_from_to [.dat d, .dat (.int l), .dat (.int h)] = some (.ok (.dat (.bool (ftB l h d))) [(some (R.dat (d))), (some (R.dat (.int l))), (some (R.dat (.int h)))]) := by
  rw [run_is_from_to]
  unfold m_is_from_to
  cases d with
  | int i =>
    by_cases c : l ≤ i <;> simp [iswhole_d, whB, ftB, c, outs_3, pr_is_from_to]
  | _ => simp [iswhole_d, whB, ftB, outs_3, pr_is_from_to]
def lastB (m : Int) : PyData → Bool
  | .tuple [.int a, y, z] => ftB 0 m (.int a) && ftB (a + 1) m y && ftB 0 4 z
  | _ => false
theorem lasting_d (d : PyData) (m : Int) : sem_is_lasting [.dat d, .dat (.int m)] = some (.ok (.dat (.bool (lastB m d))) [(some (R.dat (d))), (some (R.dat (.int m)))]) := by
  rw [run_is_lasting]
  unfold m_is_lasting
  cases d with
  | tuple ds =>
    by_cases hl : ds.length = 3
    · match ds, hl with
      | [x, y, z], _ =>
        cases x with
        | int a =>
          by_cases c1 : ftB 0 m (.int a) = true
          · by_cases c2 : ftB (a + 1) m y = true
            · simp [fromto_d, atI_nn, k_KINDS, lastB, c1, c2, outs_2, pr_is_lasting]
            · simp [fromto_d, atI_nn, k_KINDS, lastB, c1, c2, outs_2, pr_is_lasting]
          · simp [fromto_d, atI_nn, k_KINDS, lastB, c1, outs_2, pr_is_lasting]
        | _ => simp [fromto_d, atI_nn, ftB, lastB, outs_2, pr_is_lasting]
    · have hl' : ¬ (ds.length : Int) = 3 := by omega
      have e : lastB m (.tuple ds) = false := by
        match ds, hl with
        | [], _ => rfl
        | [x], _ => cases x <;> rfl
        | [x, _], _ => cases x <;> rfl
        | [_, _, _], h => exact absurd rfl h
        | x :: _ :: _ :: _ :: _, _ => cases x <;> rfl
      simp [hl', e, outs_2, pr_is_lasting]
  | _ => simp [lastB, outs_2, pr_is_lasting]
theorem isspan_d (d : PyData) : sem_is_span [.dat d] = some (.ok (.dat (.bool (lastB 999 d))) [(some (R.dat (d)))]) := by
  rw [run_is_span]
  unfold m_is_span
  simp [k_MOST_AGE, lasting_d, outs_1, pr_is_span]
def bookB : PyData → Bool
  | .tuple ds => decide (1 ≤ ds.length) && decide (ds.length ≤ 40) && ds.all (lastB 999)
  | _ => false
theorem isbook_d {d : PyData} (hl : ∀ ds, d = .tuple ds → ds.length ≤ 100000) : sem_is_book [.dat d] = some (.ok (.dat (.bool (bookB d))) [(some (R.dat (d)))]) := by
  rw [run_is_book]
  unfold m_is_book
  cases d with
  | tuple ds =>
    have l := hl ds rfl
    have h2 := lcL_mp (g := gnM 1) (vs := [1]) (c := yesT) (f := ce1_is_book) (ρ := [(some (R.dat (.tuple ds))), none]) id (fun x => .bool (lastB 999 x)) ds l (by
      intro s hs
      simp [ev, ce1_is_book, isspan_d])
    rw [List.map_id] at h2
    have al : allD (.list (ds.map fun x => .bool (lastB 999 x))) = some (.dat (.bool (ds.all (lastB 999)))) := by
      have := allD_l (ds.map (lastB 999))
      rw [List.map_map, List.all_map] at this
      exact this
    by_cases c1 : 1 ≤ ds.length
    · have c1' : (1 : Int) ≤ (ds.length : Int) := by omega
      by_cases c2 : ds.length ≤ 40
      · have c2' : (ds.length : Int) ≤ 40 := by omega
        simp [k_MOST_SPANS, c1', c2', h2, al, bookB, c1, c2, outs_1, pr_is_book]
      · have c2' : ¬ (ds.length : Int) ≤ 40 := by omega
        simp [k_MOST_SPANS, c1', c2', bookB, c1, c2, outs_1, pr_is_book]
    · have c1' : ¬ (1 : Int) ≤ (ds.length : Int) := by omega
      simp [k_MOST_SPANS, c1', bookB, c1, outs_1, pr_is_book]
  | _ => simp [bookB, outs_1, pr_is_book]
theorem whole_is (i : Int) : sem_is_whole [.dat (.int i)] = some (.ok (.dat (.bool true)) [some (.dat (.int i))]) := by
  rw [run_is_whole]
  unfold m_is_whole
  simp [outs_1, pr_is_whole]
theorem from_to_is (i l h : Int) : sem_is_from_to [.dat (.int i), .dat (.int l), .dat (.int h)] = some (.ok (.dat (.bool (decide (l ≤ i) && decide (i ≤ h)))) [some (.dat (.int i)), some (.dat (.int l)), some (.dat (.int h))]) := by
  rw [run_is_from_to]
  unfold m_is_from_to
  by_cases c : l ≤ i <;> simp [whole_is, c, outs_3, pr_is_from_to]
theorem lasting_is {s : Sp} (h : s.Ok) : sem_is_lasting [.dat s.d, .dat (.int 999)] = some (.ok (.dat (.bool true)) [some (.dat s.d), some (.dat (.int 999))]) := by
  obtain ⟨b, u, k⟩ := s
  obtain ⟨h1, h2, h3, h4, h5⟩ := h
  simp only at h1 h2 h3 h4 h5
  rw [run_is_lasting]
  unfold m_is_lasting
  have e1 : b ≤ 999 := by omega
  have e2 : b + 1 ≤ u := by omega
  simp [Sp.d, from_to_is, atI_nn, k_KINDS, h1, h3, h4, h5, e1, e2, outs_2, pr_is_lasting]
theorem isspan_is {s : Sp} (h : s.Ok) : sem_is_span [.dat s.d] = some (.ok (.dat (.bool true)) [some (.dat s.d)]) := by
  rw [run_is_span]
  unfold m_is_span
  simp [k_MOST_AGE, lasting_is h, outs_1, pr_is_span]
theorem all_true (n : Nat) : allD (.list (List.replicate n (.bool true))) = some (.dat (.bool true)) := by
  have := allD_l (List.replicate n true)
  rw [List.map_replicate] at this
  rw [this]
  simp
theorem isbook_is {L : List Sp} (h : ∀ s ∈ L, s.Ok) (h1 : 1 ≤ L.length) (h2 : L.length ≤ 40) : sem_is_book [.dat (.tuple (L.map Sp.d))] = some (.ok (.dat (.bool true)) [some (.dat (.tuple (L.map Sp.d)))]) := by
  rw [run_is_book]
  unfold m_is_book
  have hl := lcL_mp (g := gnM 1) (vs := [1]) (c := yesT) (f := ce1_is_book) (ρ := [some (.dat (.tuple (L.map Sp.d))), none]) Sp.d (fun _ => .bool true) L (Nat.le_trans h2 (by decide)) (by
    intro s hs
    simp [ev, ce1_is_book, isspan_is (h s hs)])
  have e1 : (1 : Int) ≤ (L.length : Int) := by omega
  have e2 : (L.length : Int) ≤ 40 := by omega
  simp [k_MOST_SPANS, e1, e2, hl, outs_1, pr_is_book, List.map_const', all_true]
theorem need_is {L : List Sp} (h : ∀ s ∈ L, s.Ok) (h1 : 1 ≤ L.length) (h2 : L.length ≤ 40) : sem_need_book [.dat (.tuple (L.map Sp.d))] = some (.ok (.dat .none) [some (.dat (.tuple (L.map Sp.d)))]) := by
  rw [run_need_book]
  unfold m_need_book
  simp [isbook_is h h1 h2, outs_1, pr_need_book]
theorem common_loop : ∀ (n : Nat) (a b : Int), 0 ≤ b → b < n → ∃ g : Int, whL wt1_common wb1_common n [some (.dat (.int a)), some (.dat (.int b))] = some (.nx [some (.dat (.int g)), some (.dat (.int 0))]) ∧ g.natAbs = Int.gcd a b
  | 0, a, b, h1, h2 => by omega
  | n + 1, a, b, h1, h2 => by
    by_cases hb : b = 0
    · subst hb
      refine ⟨a, ?_, by simp⟩
      unfold whL wt1_common
      simp
    · obtain ⟨g, e, hg⟩ := common_loop n b (a.fmod b) (Int.fmod_nonneg_of_pos _ (by omega)) (by have := Int.fmod_lt_of_pos a (show 0 < b by omega); omega)
      refine ⟨g, ?_, by rw [hg, gcd_step]⟩
      have e1 : wt1_common [some (.dat (.int a)), some (.dat (.int b))] = some (.ok true [some (.dat (.int a)), some (.dat (.int b))]) := by
        unfold wt1_common
        simp [hb]
      have e2 : wb1_common [some (.dat (.int a)), some (.dat (.int b))] = some (.nx [some (.dat (.int b)), some (.dat (.int (a.fmod b)))]) := by
        unfold wb1_common
        simp [hb]
      unfold whL
      simp only [e1, bindS_ok, if_true, e2]
      exact e
theorem common_is {a b : Int} (hb : 0 ≤ b) : ∃ os, sem_common [.dat (.int a), .dat (.int b)] = some (.ok (.dat (.int (Int.gcd a b : Int))) os) ∧ os = [none, none] := by
  rw [run_common]
  unfold m_common
  obtain ⟨g, e, hg⟩ := common_loop (a.natAbs + 1 + (b.natAbs + 1 + 1)) a b hb (by omega)
  refine ⟨_, ?_, rfl⟩
  have ab : (if g < 0 then -g else g) = (Int.gcd a b : Int) := by rw [← hg]; split <;> omega
  simp only [seqM_e, whM, fuelR, e, thenS_nx]
  simp [ab, outs_2, pr_common]
theorem put_is {t b : Int} (hb : 0 < b) (hb2 : b < 2 ^ 8000) : sem_put [.dat (.int t), .dat (.int b)] = some (.ok (.dat (low t b)) [some (.dat (.int t)), some (.dat (.int b))]) := by
  rw [run_put]
  unfold m_put
  obtain ⟨_, e, rfl⟩ := common_is (a := t) (b := b) (by omega)
  obtain ⟨g1, g2⟩ := gcd_bd (t := t) hb
  have gl : (Int.gcd t b : Int).natAbs.log2 < 8000 := log2_lt (by omega) (Int.lt_of_le_of_lt g2 hb2) (by decide)
  have g0 : (Int.gcd t b : Int) ≠ 0 := by omega
  have m1 : dMul (.int (Int.gcd t b : Int)) (.int 1) = some (.dat (.int (Int.gcd t b : Int))) := by
    rw [dMul_i, if_pos, Int.mul_one]
    have : (1 : Int).natAbs.log2 = 0 := by decide
    omega
  have f1 : ∀ x : Int, dFd (.int x) (.int (Int.gcd t b : Int)) = some (.dat (.int (x.fdiv (Int.gcd t b : Int)))) := fun x => by rw [dFd_i, if_pos ⟨g0, by omega⟩]
  simp [e, hb, m1, f1, outs_2, pr_put, low, -dMul_i, -dFd_i]
theorem putq {t b : Int} (hb : 0 < b) (hb2 : b < 2 ^ 8000) : sem_put [.dat (.int t), .dat (.int b)] = some (.ok (.dat (frQ (Rat.divInt t b))) [some (.dat (.int t)), some (.dat (.int b))]) := by
  rw [put_is hb hb2, low_q hb]
theorem mul_isA {i j : Int} (h1 : i.natAbs < 2 ^ 62) (h2 : j.natAbs < 2 ^ 62) : dMul (.int i) (.int j) = some (.dat (.int (i * j))) := by
  have key : ∀ {n : Nat}, n < 2 ^ 62 → n.log2 < 62 := by
    intro n h
    by_cases h0 : n = 0
    · subst h0; decide
    · exact (Nat.log2_lt h0).mpr h
  have a := key h1
  have b := key h2
  rw [dMul_i, if_pos (by omega)]
def Pl (s : Sp) : Prop := s.Ok ∧ s.b = 0
def PlI (most far : Int) (tot : Nat) (xs : List PyData) (ρ : Rho) : Prop :=
  ∃ (p : PyData) (L : List Sp) (t u : Option R), ρ = [some (.own p), some (.dat (.int most)), some (.dat (.int far)), some (.own (.list (L.map Sp.d))), t, u] ∧ Pot p ∧ (∀ s ∈ L, Pl s) ∧ L.length + xs.length = tot
theorem plain_turn {tot : Nat} {most far : Int} (hf : 1 ≤ far ∧ far ≤ 998) (ht2 : tot ≤ 1000) {x : PyData} {r : List PyData} {ρ : Rho} (h : PlI most far tot (x :: r) ρ) :
    ∃ ρ1 ρ2, gnM 4 x ρ = some ρ1 ∧ (fb1__law_plain ρ1 = some (.nx ρ2) ∨ fb1__law_plain ρ1 = some (.ct ρ2)) ∧ PlI most far tot r ρ2 := by
  obtain ⟨p, L, t, u, rfl, hp, hL, ht⟩ := h
  rw [List.length_cons] at ht
  obtain ⟨v1, p1, d1, l1, g1, o1⟩ := take_is hp (b := far) (by omega) (by omega)
  obtain ⟨v2, p2, d2, l2, g2, o2⟩ := take_is o1 (b := 3) (by omega) (by omega)
  obtain ⟨v3, p3, d3, l3, g3, o3⟩ := take_is o2 (b := 9) (by omega) (by omega)
  obtain ⟨v4, p4, d4, l4, g4, o4⟩ := take_is o3 (b := 4) (by omega) (by omega)
  obtain ⟨v5, p5, d5, l5, g5, o5⟩ := take_is o4 (b := 3) (by omega) (by omega)
  have q : v3.fdiv 4 = v3 / 4 := Int.fdiv_eq_ediv_of_nonneg _ (by omega)
  generalize hm : (if v3.fdiv 4 < 2 then v3.fdiv 4 else 2) = m
  have hm1 : 0 ≤ m ∧ m < 3 := by subst hm; rw [q]; split <;> omega
  obtain ⟨w, i1, hw⟩ := ix3 (x := 1 + v1) (y := 1 + v2) (z := 999) hm1.1 hm1.2
  have hk : ∃ k : Int, atI [PyData.int 0, .int (1 + v4)] (if decide (0 < v5) = true then 1 else 0) = some (.int k) ∧ 0 ≤ k ∧ k ≤ 4 := by
    by_cases z : 0 < v5
    · exact ⟨1 + v4, by simp only [z, decide_true, if_true]; rfl, by omega, by omega⟩
    · exact ⟨0, by simp only [z, decide_false]; rfl, by omega, by omega⟩
  obtain ⟨k, i2, k1, k2⟩ := hk
  refine ⟨_, [some (.own p5), some (.dat (.int most)), some (.dat (.int far)), some (.own (.list (L.map Sp.d ++ [Sp.d ⟨0, w, k⟩]))), some (.dat x), some (.dat (.int w))], rfl, .inl ?_, p5, L ++ [⟨0, w, k⟩], _, _, by rw [List.map_append]; rfl, o5, ?_, by rw [List.length_append]; simp only [List.length_cons, List.length_nil]; omega⟩
  · unfold fb1__law_plain
    have hlim : L.length < 100000 := by omega
    have l4' : Nat.log2 4 < 9000 := by decide
    simp [d1, d2, d3, hm, i1, d4, d5, i2, hlim, Sp.d, l4', -decide_eq_true_eq]
  · intro y hy
    rcases List.mem_append.mp hy with hy | hy
    · exact hL y hy
    · rw [List.mem_singleton] at hy
      subst hy
      exact ⟨⟨by show (0 : Int) ≤ 0; omega, by show 0 < w; omega, by show w ≤ 999; omega, k1, k2⟩, rfl⟩
theorem plain_is {p : PyData} {most far : Int} (h : Pot p) (h1 : 1 ≤ most) (h2 : most ≤ 1000) (hf : 1 ≤ far ∧ far ≤ 998) :
    ∃ (L : List Sp) (p' : PyData), sem__law_plain [.own p, .dat (.int most), .dat (.int far)] = some (.ok (.dat (.tuple (L.map Sp.d))) [some (.own p'), some (.dat (.int most)), some (.dat (.int far))]) ∧ (∀ s ∈ L, Pl s) ∧ 1 ≤ L.length ∧ (L.length : Int) ≤ most ∧ Pot p' := by
  obtain ⟨v2, p2, d2, l2, g2, o2⟩ := take_is h (b := most) (by omega) (by omega)
  rw [run__law_plain]
  unfold m__law_plain
  obtain ⟨ρ', e, p', L, t, s5, rfl, o3, hL, hl⟩ := forL_inv (g := gnM 4) (body := fb1__law_plain) (PlI most far (1 + v2).toNat) (rngL 0 (1 + v2).toNat) [some (.own p2), some (.dat (.int most)), some (.dat (.int far)), some (.own (.list [])), none, none]
    ⟨p2, [], none, none, rfl, o2, by simp, by rw [rngL_length]; simp⟩ (fun x r ρ h => plain_turn hf (by omega) h)
  simp only [List.length_nil, Nat.add_zero] at hl
  refine ⟨L, p', ?_, hL, by omega, by omega, o3⟩
  have hr := fun ρ => rg1_is (j := 1 + v2) ρ (by omega) (by omega)
  simp [d2, hr, e, outs_3, pr__law_plain]
structure Good (L : List Sp) : Prop where
  p : ∀ s ∈ L, Pl s
  l1 : 1 ≤ L.length
  l2 : L.length ≤ 40
theorem Good.need {L : List Sp} (h : Good L) : sem_need_book [.dat (.tuple (L.map Sp.d))] = some (.ok (.dat .none) [some (.dat (.tuple (L.map Sp.d)))]) := need_is (fun s hs => (h.p s hs).1) h.l1 h.l2
theorem any_false (n : Nat) : anyD (.list (List.replicate n (.bool false))) = some (.dat (.bool false)) := by
  have := anyD_l (List.replicate n false)
  rw [List.map_replicate] at this
  rw [this]
  simp
theorem needplain_is {L : List Sp} (h : Good L) : sem_need_plain [.dat (.tuple (L.map Sp.d))] = some (.ok (.dat .none) [some (.dat (.tuple (L.map Sp.d)))]) := by
  rw [run_need_plain]
  unfold m_need_plain
  have hl := lcL_mp (g := gtM (gsC (gnM 1) (gsC (gnM 2) (gsC (gnM 3) gs0)))) (vs := [1, 2, 3]) (c := yesT) (f := ce1_need_plain) (ρ := [some (.dat (.tuple (L.map Sp.d))), none, none, none]) Sp.d (fun _ => .bool false) L (Nat.le_trans h.l2 (by decide)) (by
    intro s hs
    have e : s.b = 0 := (h.p s hs).2
    simp [ev, ce1_need_plain, Sp.d, e])
  simp [h.need, hl, List.map_const', any_false, outs_1, pr_need_plain]
def soonS (s : Sp) : Sp := if 0 < s.k then s else ⟨0, s.u + 1, 1⟩
def lateS (s : Sp) : Sp := if 0 < s.k then s else ⟨0, 2000, 1⟩
theorem soonby_is {L : List Sp} (h2 : L.length ≤ 40) : sem_soonest_by [.dat (.tuple (L.map Sp.d))] = some (.ok (.dat (.tuple (L.map fun s => (soonS s).d))) [some (.dat (.tuple (L.map Sp.d)))]) := by
  rw [run_soonest_by]
  unfold m_soonest_by
  have hl := lcL_mp (g := gtM (gsC (gnM 1) (gsC (gnM 2) (gsC (gnM 3) gs0)))) (vs := [1, 2, 3]) (c := yesT) (f := ce1_soonest_by) (ρ := [some (.dat (.tuple (L.map Sp.d))), none, none, none]) Sp.d (fun s => (soonS s).d) L (Nat.le_trans h2 (by decide)) (by
    intro s hs
    by_cases c : 0 < s.k <;> simp [ev, ce1_soonest_by, Sp.d, soonS, c])
  simp [hl, outs_1, pr_soonest_by]
theorem lateby_is {L : List Sp} (h2 : L.length ≤ 40) : sem_latest_by [.dat (.tuple (L.map Sp.d))] = some (.ok (.dat (.tuple (L.map fun s => (lateS s).d))) [some (.dat (.tuple (L.map Sp.d)))]) := by
  rw [run_latest_by]
  unfold m_latest_by
  have hl := lcL_mp (g := gtM (gsC (gnM 1) (gsC (gnM 2) (gsC (gnM 3) gs0)))) (vs := [1, 2, 3]) (c := yesT) (f := ce1_latest_by) (ρ := [some (.dat (.tuple (L.map Sp.d))), none, none, none]) Sp.d (fun s => (lateS s).d) L (Nat.le_trans h2 (by decide)) (by
    intro s hs
    by_cases c : 0 < s.k <;> simp [ev, ce1_latest_by, Sp.d, lateS, c, k_LATEST])
  simp [hl, outs_1, pr_latest_by]
theorem q_key {a b : Int} (hb : 0 < b) : (Rat.divInt a b).num * b = a * (Rat.divInt a b).den := by
  have h := Rat.num_divInt_den (Rat.divInt a b)
  exact (Rat.divInt_eq_divInt_iff (by have := q_pos (Rat.divInt a b); omega) (by omega)).mp h
def up (P : List Sp) (t : Int) : Nat := P.countP fun s => decide (t < s.u)
def bh (P Q : List Sp) (t : Int) : Bool := decide ((up P t : Int) * (Q.length : Int) < (up Q t : Int) * (P.length : Int))
theorem up_le (P : List Sp) (t : Int) : up P t ≤ P.length := List.countP_le_length
theorem mem_u {P : List Sp} {t : Int} (h : t ∉ P.map Sp.u) : up P t = up P (t - 1) := by
  unfold up
  refine List.countP_congr ?_
  intro s hs
  have : s.u ≠ t := fun e => h (List.mem_map.mpr ⟨s, hs, e⟩)
  simp only [decide_eq_true_eq]
  omega
theorem find_sorted {F : Int → Bool} {t : Int} : ∀ {xs : List Int}, xs.Pairwise (· < ·) → t ∈ xs → F t = true → (∀ s ∈ xs, s < t → F s = false) → xs.find? F = some t
  | [], _, h, _, _ => by cases h
  | x :: r, hp, hm, hf, hb => by
    rw [List.pairwise_cons] at hp
    by_cases e : x = t
    · subst e
      rw [List.find?_cons_of_pos hf]
    · have hm' : t ∈ r := by
        rcases List.mem_cons.mp hm with q | q
        · exact absurd q.symm e
        · exact q
      have lt := hp.1 t hm'
      rw [List.find?_cons_of_neg (by rw [hb x (List.mem_cons_self ..) lt]; decide)]
      exact find_sorted hp.2 hm' hf fun s hs => hb s (List.mem_cons_of_mem _ hs)
theorem find_none {F : Int → Bool} {xs : List Int} (h : ∀ s ∈ xs, F s = false) : xs.find? F = none := by
  rw [List.find?_eq_none]
  intro s hs
  rw [h s hs]
  decide
theorem least (F : Int → Bool) : ∀ n : Nat, (∀ t : Int, 0 ≤ t → t < n → F t = false) ∨ ∃ t : Int, 0 ≤ t ∧ t < n ∧ F t = true ∧ ∀ s : Int, 0 ≤ s → s < t → F s = false
  | 0 => .inl fun t h1 h2 => by omega
  | n + 1 => by
    rcases least F n with h | ⟨t, h1, h2, h3, h4⟩
    · cases e : F (n : Int) with
      | true => exact .inr ⟨n, by omega, by omega, e, h⟩
      | false =>
        refine .inl fun t h1 h2 => ?_
        by_cases q : t = n
        · rw [q]; exact e
        · exact h t h1 (by omega)
    · exact .inr ⟨t, h1, by omega, h3, h4⟩
def allT : List Int := (List.range 2001).map fun k => ((k : Nat) : Int)
theorem allT_mem {t : Int} : t ∈ allT ↔ 0 ≤ t ∧ t < (2001 : Nat) := by
  unfold allT
  rw [List.mem_map]
  constructor
  · rintro ⟨k, hk, rfl⟩
    rw [List.mem_range] at hk
    omega
  · rintro ⟨h1, h2⟩
    exact ⟨t.toNat, List.mem_range.mpr (by omega), by omega⟩
theorem allT_pw : allT.Pairwise (· < ·) := by
  unfold allT
  rw [List.pairwise_map]
  refine List.pairwise_lt_range.imp ?_
  intro a b h
  omega
def usT (P Q : List Sp) : List Int := sortU (onceL ((P ++ Q).map Sp.u) [])
theorem usT_mem {P Q : List Sp} {t : Int} : t ∈ usT P Q ↔ t ∈ P.map Sp.u ∨ t ∈ Q.map Sp.u := by
  unfold usT
  rw [sortU_mem, onceL_mem, List.map_append, List.mem_append]
  simp
theorem first_eq {P Q : List Sp} (hP : ∀ s ∈ P, 1 ≤ s.u ∧ s.u ≤ 2000) (hQ : ∀ s ∈ Q, 1 ≤ s.u ∧ s.u ≤ 2000) : (usT P Q).find? (bh P Q) = allT.find? (bh P Q) := by
  have sub : ∀ t ∈ usT P Q, 0 ≤ t ∧ t < ((2001 : Nat) : Int) := by
    intro t ht
    rcases usT_mem.mp ht with h | h
    · obtain ⟨s, hs, rfl⟩ := List.mem_map.mp h
      have := hP s hs
      omega
    · obtain ⟨s, hs, rfl⟩ := List.mem_map.mp h
      have := hQ s hs
      omega
  rcases least (bh P Q) 2001 with h | ⟨t, h1, h2, h3, h4⟩
  · rw [find_none fun s hs => h s (allT_mem.mp hs).1 (allT_mem.mp hs).2, find_none fun s hs => h s (sub s hs).1 (sub s hs).2]
  · rw [find_sorted allT_pw (allT_mem.mpr ⟨h1, h2⟩) h3 fun s hs hl => h4 s (allT_mem.mp hs).1 hl]
    refine find_sorted sortU_pw ?_ h3 fun s hs hl => h4 s (sub s hs).1 hl
    show t ∈ usT P Q
    rw [usT_mem]
    by_cases c1 : t ∈ P.map Sp.u
    · exact .inl c1
    by_cases c2 : t ∈ Q.map Sp.u
    · exact .inr c2
    exfalso
    by_cases z : t = 0
    · subst z
      have e : ∀ {R : List Sp}, (∀ s ∈ R, 1 ≤ s.u ∧ s.u ≤ 2000) → up R 0 = R.length := by
        intro R hR
        unfold up
        rw [List.countP_eq_length]
        intro s hs
        have := hR s hs
        simp only [decide_eq_true_eq]
        omega
      unfold bh at h3
      rw [e hP, e hQ, decide_eq_true_eq, Int.mul_comm] at h3
      omega
    · have := h4 (t - 1) (by omega) (by omega)
      unfold bh at this h3
      rw [← mem_u c1, ← mem_u c2, h3] at this
      cases this
theorem q_lt {a b c d : Int} (hb : 0 < b) (hd : 0 < d) : (Rat.divInt a b).num * ((Rat.divInt c d).den : Int) < (Rat.divInt c d).num * ((Rat.divInt a b).den : Int) ↔ a * d < c * b := by
  have k1 := q_key (a := a) hb
  have k2 := q_key (a := c) hd
  have p1 := q_pos (Rat.divInt a b)
  have p2 := q_pos (Rat.divInt c d)
  generalize (Rat.divInt a b).num = m at *
  generalize ((Rat.divInt a b).den : Int) = n at *
  generalize (Rat.divInt c d).num = x at *
  generalize ((Rat.divInt c d).den : Int) = y at *
  have e1 : m * y * (b * d) = a * d * (n * y) := by
    rw [show m * y * (b * d) = m * b * (y * d) by simp only [Int.mul_assoc, Int.mul_left_comm, Int.mul_comm], k1]
    simp only [Int.mul_assoc, Int.mul_left_comm, Int.mul_comm]
  have e2 : x * n * (b * d) = c * b * (n * y) := by
    rw [show x * n * (b * d) = x * d * (n * b) by simp only [Int.mul_assoc, Int.mul_left_comm, Int.mul_comm], k2]
    simp only [Int.mul_assoc, Int.mul_left_comm, Int.mul_comm]
  have q1 : 0 < b * d := Int.mul_pos hb hd
  have q2 : 0 < n * y := Int.mul_pos p1 p2
  constructor
  · intro h
    have := Int.mul_lt_mul_of_pos_right h q1
    rw [e1, e2] at this
    exact Int.lt_of_mul_lt_mul_right this (by omega)
  · intro h
    have := Int.mul_lt_mul_of_pos_right h q2
    rw [← e1, ← e2] at this
    exact Int.lt_of_mul_lt_mul_right this (by omega)
def lsQ (P : List Sp) (t : Int) : Rat := Rat.divInt (up P t) P.length
theorem up_sz {P : List Sp} (h1 : 1 ≤ P.length) (h2 : P.length ≤ 40) (t : Int) : Sz 6 (lsQ P t) := by
  have := up_le P t
  exact Sz.divInt (natAbs_lt (by omega) (by omega)) (by omega) (by omega)
theorem last_is {P : List Sp} (h1 : 1 ≤ P.length) (h2 : P.length ≤ 40) (t : Int) : sem_lasting [.dat (.tuple (P.map Sp.d)), .dat (.int t)] = some (.ok (.dat (frQ (lsQ P t))) [(some (R.dat (.tuple (P.map Sp.d)))), (some (R.dat (.int t)))]) := by
  rw [run_lasting]
  unfold m_lasting
  have hl := lcL_fm (g := gtM (gsC (gnM 2) (gsC (gnM 3) (gsC (gnM 4) gs0)))) (vs := [2, 3, 4]) (c := cc1_lasting) (f := ce1_lasting) (ρ := [(some (R.dat (.tuple (P.map Sp.d)))), (some (R.dat (.int t))), none, none, none]) Sp.d (fun s => if decide (t < s.u) = true then some (.int 1) else none) P (Nat.le_trans h2 (by decide)) (by
    intro s hs
    by_cases c : t < s.u <;> simp [ev, cc1_lasting, ce1_lasting, Sp.d, c])
  have hp := putq (t := (up P t : Int)) (b := (P.length : Int)) (by omega) (lt8000 (by omega))
  rw [show Rat.divInt (up P t) P.length = lsQ P t from rfl] at hp
  have hn := len_fm (fun s : Sp => decide (t < s.u)) (.int 1) P
  rw [show P.countP (fun s : Sp => decide (t < s.u)) = up P t from rfl] at hn
  simp only [decide_eq_true_eq] at hl hn
  simp [hl, hn, hp, outs_2, pr_lasting]
theorem isless_is {p q : Rat} (hp : Sz 6 p) (hq : Sz 6 q) : sem_is_less [.dat (frQ p), .dat (frQ q)] = some (.ok (.dat (.bool (decide (p.num * (q.den : Int) < q.num * (p.den : Int))))) [(some (R.dat (frQ p))), (some (R.dat (frQ q)))]) := by
  rw [run_is_less]
  unfold m_is_less
  have a1 := hp.n
  have a2 := hp.d
  have b1 := hq.n
  have b2 := hq.d
  have m1 := mul_isA (i := p.num) (j := (q.den : Int)) (by omega) (by omega)
  have m2 := mul_isA (i := q.num) (j := (p.den : Int)) (by omega) (by omega)
  simp [frQ, m1, m2, atI_nn, outs_2, pr_is_less, -dMul_i]
theorem forL_find {g : GM} {body : SM} {F : Int → Bool} (I : Rho → Prop) : ∀ (xs : List Int), (∀ t ∈ xs, ∀ ρ, I ρ → ∃ ρ1 ρ2, g (.int t) ρ = some ρ1 ∧ body ρ1 = (if F t = true then some (.rt (.dat (.int t)) ρ2) else some (.nx ρ2)) ∧ I ρ2) → ∀ ρ, I ρ → ∃ ρ', I ρ' ∧ forL g body (xs.map .int) ρ = match xs.find? F with
    | none => some (.nx ρ')
    | some t => some (.rt (.dat (.int t)) ρ')
  | [], _, ρ, h => ⟨ρ, h, rfl⟩
  | x :: r, ht, ρ, h => by
    obtain ⟨ρ1, ρ2, e1, e2, i2⟩ := ht x (List.mem_cons_self ..) ρ h
    cases c : F x with
    | true =>
      refine ⟨ρ2, i2, ?_⟩
      rw [if_pos c] at e2
      rw [List.find?_cons_of_pos c, List.map_cons, forL, e1]
      simp only [e2]
    | false =>
      rw [if_neg (by rw [c]; decide)] at e2
      obtain ⟨ρ', i', e'⟩ := forL_find I r (fun t hm => ht t (List.mem_cons_of_mem _ hm)) ρ2 i2
      refine ⟨ρ', i', ?_⟩
      rw [List.find?_cons_of_neg (by rw [c]; decide), List.map_cons, forL, e1]
      simp only [e2]
      exact e'
def nOr : Option Int → PyData
  | none => .none
  | some t => .int t
theorem less_turn {P Q : List Sp} (p1 : 1 ≤ P.length) (p2 : P.length ≤ 40) (q1 : 1 ≤ Q.length) (q2 : Q.length ≤ 40) (t : Int) : fb1_first_less [(some (R.dat (.tuple (P.map Sp.d)))), (some (R.dat (.tuple (Q.map Sp.d)))), (some (R.dat (.int t))), none, none, none] = if bh P Q t = true then some (.rt (.dat (.int t)) [(some (R.dat (.tuple (P.map Sp.d)))), (some (R.dat (.tuple (Q.map Sp.d)))), (some (R.dat (.int t))), none, none, none]) else some (.nx [(some (R.dat (.tuple (P.map Sp.d)))), (some (R.dat (.tuple (Q.map Sp.d)))), (some (R.dat (.int t))), none, none, none]) := by
  have il := isless_is (up_sz p1 p2 t) (up_sz q1 q2 t)
  have e : decide ((lsQ P t).num * ((lsQ Q t).den : Int) < (lsQ Q t).num * ((lsQ P t).den : Int)) = bh P Q t := by
    unfold bh
    rw [decide_eq_decide]
    exact q_lt (by omega) (by omega)
  rw [e] at il
  unfold fb1_first_less
  cases c : bh P Q t <;> simp [last_is p1 p2, last_is q1 q2, il, c]
theorem firstless_is {P Q : List Sp} (p1 : 1 ≤ P.length) (p2 : P.length ≤ 30) (q1 : 1 ≤ Q.length) (q2 : Q.length ≤ 30) : sem_first_less [.dat (.tuple (P.map Sp.d)), .dat (.tuple (Q.map Sp.d))] = some (.ok (.dat (nOr ((usT P Q).find? (bh P Q)))) [(some (R.dat (.tuple (P.map Sp.d)))), (some (R.dat (.tuple (Q.map Sp.d))))]) := by
  rw [run_first_less]
  unfold m_first_less
  have hs := scL_fm (g := gtM (gsC (gnM 3) (gsC (gnM 4) (gsC (gnM 5) gs0)))) (vs := [3, 4, 5]) (c := yesT) (f := ce1_first_less) (ρ := [(some (R.dat (.tuple (P.map Sp.d)))), (some (R.dat (.tuple (Q.map Sp.d)))), none, none, none, none]) Sp.d (fun s => some s.u) (P ++ Q) (by rw [List.length_append]; omega) (by
    intro s hs
    simp [evi, ce1_first_less, Sp.d])
  rw [List.filterMap_eq_map', List.map_append, List.map_append] at hs
  have hn : (onceL ((P ++ Q).map Sp.u) []).length < 64 := by
    have := onceL_len ((P ++ Q).map Sp.u) []
    rw [List.length_map, List.length_append] at this
    simp only [List.length_nil] at this
    omega
  have hl : (P.map Sp.d).length + (Q.map Sp.d).length ≤ 100000 := by rw [List.length_map, List.length_map]; omega
  obtain ⟨ρ', ⟨e2, rfl⟩, e⟩ := forL_find (g := gnM 2) (body := fb1_first_less) (F := bh P Q) (fun ρ => ∃ e2, ρ = [(some (R.dat (.tuple (P.map Sp.d)))), (some (R.dat (.tuple (Q.map Sp.d)))), e2, none, none, none]) (usT P Q) (by
    rintro t _ ρ ⟨e2, rfl⟩
    exact ⟨_, _, rfl, less_turn p1 (by omega) q1 (by omega) t, _, rfl⟩) [(some (R.dat (.tuple (P.map Sp.d)))), (some (R.dat (.tuple (Q.map Sp.d)))), none, none, none, none] ⟨_, rfl⟩
  have dp := dPlus_tc (i := P.map Sp.d) (j := Q.map Sp.d) hl
  unfold usT at e
  rw [List.map_append] at hn
  rw [List.map_append] at e
  cases c : (usT P Q).find? (bh P Q) with
  | none =>
    unfold usT at c
    rw [List.map_append] at c
    rw [c] at e
    simp [dp, -dPlus_t, hs, hn, e, outs_2, pr_first_less, nOr]
  | some t =>
    unfold usT at c
    rw [List.map_append] at c
    rw [c] at e
    simp [dp, -dPlus_t, hs, hn, e, outs_2, pr_first_less, nOr]
structure Tru (P : List Sp) : Prop where
  u : ∀ s ∈ P, 1 ≤ s.u ∧ s.u ≤ 2000
  r : ∀ s ∈ P, (0 ≤ s.b ∧ s.b ≤ 9999) ∧ (0 ≤ s.u ∧ s.u ≤ 9999) ∧ 0 ≤ s.k ∧ s.k ≤ 4
  l1 : 1 ≤ P.length
  l2 : P.length ≤ 30
structure Sm (L : List Sp) : Prop where
  g : Good L
  l : L.length ≤ 30
theorem soon_tru {L : List Sp} (h : Sm L) : Tru (L.map soonS) := by
  have key : ∀ s ∈ L.map soonS, (1 ≤ s.u ∧ s.u ≤ 2000) ∧ (0 ≤ s.b ∧ s.b ≤ 9999) ∧ 0 ≤ s.k ∧ s.k ≤ 4 := by
    intro s hs
    obtain ⟨x, hx, rfl⟩ := List.mem_map.mp hs
    obtain ⟨⟨a, b, c, d, e⟩, f⟩ := h.g.p x hx
    unfold soonS
    split
    · exact ⟨⟨by omega, by omega⟩, ⟨by omega, by omega⟩, by omega, by omega⟩
    · exact ⟨⟨by show 1 ≤ x.u + 1; omega, by show x.u + 1 ≤ 2000; omega⟩, ⟨by show (0:Int) ≤ 0; omega, by show (0:Int) ≤ 9999; omega⟩, by show (0:Int) ≤ 1; omega, by show (1:Int) ≤ 4; omega⟩
  refine ⟨fun s hs => (key s hs).1, fun s hs => ?_, by rw [List.length_map]; exact h.g.l1, by rw [List.length_map]; exact h.l⟩
  obtain ⟨a, b, c⟩ := key s hs
  exact ⟨b, ⟨by omega, by omega⟩, c⟩
theorem late_tru {L : List Sp} (h : Sm L) : Tru (L.map lateS) := by
  have key : ∀ s ∈ L.map lateS, (1 ≤ s.u ∧ s.u ≤ 2000) ∧ (0 ≤ s.b ∧ s.b ≤ 9999) ∧ 0 ≤ s.k ∧ s.k ≤ 4 := by
    intro s hs
    obtain ⟨x, hx, rfl⟩ := List.mem_map.mp hs
    obtain ⟨⟨a, b, c, d, e⟩, f⟩ := h.g.p x hx
    unfold lateS
    split
    · exact ⟨⟨by omega, by omega⟩, ⟨by omega, by omega⟩, by omega, by omega⟩
    · exact ⟨⟨by show (1:Int) ≤ 2000; omega, by show (2000:Int) ≤ 2000; omega⟩, ⟨by show (0:Int) ≤ 0; omega, by show (0:Int) ≤ 9999; omega⟩, by show (0:Int) ≤ 1; omega, by show (1:Int) ≤ 4; omega⟩
  refine ⟨fun s hs => (key s hs).1, fun s hs => ?_, by rw [List.length_map]; exact h.g.l1, by rw [List.length_map]; exact h.l⟩
  obtain ⟨a, b, c⟩ := key s hs
  exact ⟨b, ⟨by omega, by omega⟩, c⟩
theorem soon_sp {L : List Sp} (h : Sm L) : ∃ P : List Sp, P = L.map soonS ∧ Tru P ∧ sem_soonest_by [.dat (.tuple (L.map Sp.d))] = some (.ok (.dat (.tuple (P.map Sp.d))) [(some (R.dat (.tuple (L.map Sp.d))))]) := by
  refine ⟨_, rfl, soon_tru h, ?_⟩
  rw [soonby_is h.g.l2, List.map_map]; rfl
theorem late_sp {L : List Sp} (h : Sm L) : ∃ P : List Sp, P = L.map lateS ∧ Tru P ∧ sem_latest_by [.dat (.tuple (L.map Sp.d))] = some (.ok (.dat (.tuple (P.map Sp.d))) [(some (R.dat (.tuple (L.map Sp.d))))]) := by
  refine ⟨_, rfl, late_tru h, ?_⟩
  rw [lateby_is h.g.l2, List.map_map]; rfl
theorem isn_n : dIsN .none .none = some (.dat (.bool true)) := rfl
theorem isn_i (t : Int) : dIsN (.int t) .none = some (.dat (.bool false)) := rfl
def mayD (P Q : List Sp) : PyData := match allT.find? (bh P Q) with
  | none => .tuple [.str "may", .tuple (P.map Sp.d), .tuple (Q.map Sp.d)]
  | some t => .tuple [.str "never", .int t]
def mustD (P Q : List Sp) : PyData := match allT.find? (bh P Q) with
  | none => .tuple [.str "must"]
  | some t => .tuple [.str "not", .tuple (P.map Sp.d), .tuple (Q.map Sp.d), .int t]
theorem fl_is {P Q : List Sp} (p : Tru P) (q : Tru Q) : sem_first_less [.dat (.tuple (P.map Sp.d)), .dat (.tuple (Q.map Sp.d))] = some (.ok (.dat (nOr (allT.find? (bh P Q)))) [(some (R.dat (.tuple (P.map Sp.d)))), (some (R.dat (.tuple (Q.map Sp.d))))]) := by
  rw [firstless_is p.l1 p.l2 q.l1 q.l2, first_eq p.u q.u]
theorem may_is {L M : List Sp} (h : Sm L) (k : Sm M) : sem_may_outlast [.dat (.tuple (L.map Sp.d)), .dat (.tuple (M.map Sp.d))] = some (.ok (.dat (mayD (L.map lateS) (M.map soonS))) [(some (R.dat (.tuple (L.map Sp.d)))), (some (R.dat (.tuple (M.map Sp.d))))]) := by
  obtain ⟨P, hP, tP, p1⟩ := late_sp h
  obtain ⟨Q, hQ, tQ, q1⟩ := soon_sp k
  rw [← hP, ← hQ, run_may_outlast]
  unfold m_may_outlast mayD
  have f := fl_is tP tQ
  cases c : allT.find? (bh P Q) with
  | none =>
    rw [c] at f
    simp [needplain_is h.g, needplain_is k.g, p1, q1, f, nOr, isn_n, isn_i, outs_2, pr_may_outlast]
  | some t =>
    rw [c] at f
    simp [needplain_is h.g, needplain_is k.g, p1, q1, f, nOr, isn_n, isn_i, outs_2, pr_may_outlast]
theorem must_is {L M : List Sp} (h : Sm L) (k : Sm M) : sem_must_outlast [.dat (.tuple (L.map Sp.d)), .dat (.tuple (M.map Sp.d))] = some (.ok (.dat (mustD (L.map soonS) (M.map lateS))) [(some (R.dat (.tuple (L.map Sp.d)))), (some (R.dat (.tuple (M.map Sp.d))))]) := by
  obtain ⟨P, hP, tP, p1⟩ := soon_sp h
  obtain ⟨Q, hQ, tQ, q1⟩ := late_sp k
  rw [← hP, ← hQ, run_must_outlast]
  unfold m_must_outlast mustD
  have f := fl_is tP tQ
  cases c : allT.find? (bh P Q) with
  | none =>
    rw [c] at f
    simp [needplain_is h.g, needplain_is k.g, p1, q1, f, nOr, isn_n, isn_i, outs_2, pr_must_outlast]
  | some t =>
    rw [c] at f
    simp [needplain_is h.g, needplain_is k.g, p1, q1, f, nOr, isn_n, isn_i, outs_2, pr_must_outlast]
def TrOf (s o : Sp) : Prop := (0 < s.k ∧ o = s) ∨ (s.k = 0 ∧ o.b = 0 ∧ s.u < o.u ∧ o.u ≤ 2000 ∧ 1 ≤ o.k ∧ o.k ≤ 4)
def Trs : List Sp → List Sp → Prop
  | [], [] => True
  | s :: r, o :: q => TrOf s o ∧ Trs r q
  | _, _ => False
theorem Trs.snoc {s o : Sp} (h : TrOf s o) : ∀ {A B : List Sp}, Trs A B → Trs (A ++ [s]) (B ++ [o])
  | [], [], _ => ⟨h, trivial⟩
  | [], _ :: _, k => k.elim
  | _ :: _, [], k => k.elim
  | _ :: _, _ :: _, ⟨a, b⟩ => ⟨a, Trs.snoc h b⟩
theorem Trs.len : ∀ {A B : List Sp}, Trs A B → B.length = A.length
  | [], [], _ => rfl
  | [], _ :: _, k => k.elim
  | _ :: _, [], k => k.elim
  | _ :: _, _ :: _, ⟨_, b⟩ => by rw [List.length_cons, List.length_cons, Trs.len b]
theorem needtime_is {t : Int} (h1 : 0 ≤ t) (h2 : t ≤ 9999) : sem_need_time [.dat (.int t)] = some (.ok (.dat .none) [some (.dat (.int t))]) := by
  rw [run_need_time]
  unfold m_need_time
  simp [from_to_is, k_MOST_TIME, h1, h2, outs_1, pr_need_time]
theorem Sm.ok {L : List Sp} (h : Sm L) : ∀ s ∈ L, s.Ok := fun s hs => (h.g.p s hs).1
theorem bounds_is {L : List Sp} (h : Sm L) {t : Int} (h1 : 0 ≤ t) (h2 : t ≤ 9999) : sem_bounds [.dat (.tuple (L.map Sp.d)), .dat (.int t)] = some (.ok (.dat (.tuple [frQ (lsQ (L.map soonS) t), frQ (lsQ (L.map lateS) t)])) [(some (R.dat (.tuple (L.map Sp.d)))), (some (R.dat (.int t)))]) := by
  obtain ⟨P, hP, tP, p1⟩ := soon_sp h
  obtain ⟨Q, hQ, tQ, q1⟩ := late_sp h
  rw [← hP, ← hQ, run_bounds]
  unfold m_bounds
  have a := last_is tP.l1 (show P.length ≤ 40 by have := tP.l2; omega) t
  have b := last_is tQ.l1 (show Q.length ≤ 40 by have := tQ.l2; omega) t
  simp [needplain_is h.g, needtime_is h1 h2, p1, q1, a, b, outs_2, pr_bounds]
theorem soonest_is {L : List Sp} (h : Sm L) : sem_soonest [.dat (.tuple (L.map Sp.d))] = some (.ok (.dat (.tuple ((L.map soonS).map Sp.d))) [(some (R.dat (.tuple (L.map Sp.d))))]) := by
  obtain ⟨P, hP, tP, p1⟩ := soon_sp h
  rw [← hP, run_soonest]
  unfold m_soonest
  simp [needplain_is h.g, p1, outs_1, pr_soonest]
theorem latest_is {L : List Sp} (h : Sm L) : sem_latest [.dat (.tuple (L.map Sp.d))] = some (.ok (.dat (.tuple ((L.map lateS).map Sp.d))) [(some (R.dat (.tuple (L.map Sp.d))))]) := by
  obtain ⟨P, hP, tP, p1⟩ := late_sp h
  rw [← hP, run_latest]
  unfold m_latest
  simp [needplain_is h.g, p1, outs_1, pr_latest]
def oddL : List PyData := [.none, .bool true, .bool false, .int (-1), .int 100000000000, .str "", .str "a", .str "1", .tuple [], .list [], .dict [], .tuple [.int 0, .int 1], .tuple [.tuple [.int 0, .int 1, .int 1]], .tuple [.int 1, .int 2], .list [.int 0], .dict [(.int 0, .int 1)]]
def trB (s : Sp) : PyData → Bool
  | .tuple [.int a, .int b, .int c] => if 0 < s.k then decide (a = s.b) && (decide (b = s.u) && decide (c = s.k)) else decide (a = 0) && (decide (s.u < b) && decide (b ≤ 2000) && (decide (1 ≤ c) && decide (c ≤ 4)))
  | _ => false
theorem dEq_sps (a b c : Int) (s : Sp) : dEq (.tuple [.int a, .int b, .int c]) s.d = some (.dat (.bool (decide (a = s.b) && (decide (b = s.u) && decide (c = s.k))))) := by
  have e := dEq_of (Sp.eqb ⟨a, b, c⟩) s.eqb (by decide) (by decide) (by intro i j h; cases h)
  rw [show (.tuple [.int a, .int b, .int c] : PyData) = Sp.d ⟨a, b, c⟩ from rfl, e]
  simp [Sp.d, PyData.eqv, PyData.eqvAll]
  all_goals rfl
theorem lastB_shape {m : Int} {d : PyData} (h : ¬ ∃ a b c, d = .tuple [.int a, .int b, .int c]) : lastB m d = false := by
  unfold lastB
  split
  · rename_i a y z
    cases y with
    | int b =>
      cases z with
      | int c => exact absurd ⟨a, b, c, rfl⟩ h
      | _ => simp [ftB]
    | _ => simp [ftB]
  · rfl
theorem trB_shape {s : Sp} {d : PyData} (h : ¬ ∃ a b c, d = .tuple [.int a, .int b, .int c]) : trB s d = false := by
  unfold trB
  split
  · rename_i a b c
    exact absurd ⟨a, b, c, rfl⟩ h
  · rfl
theorem istrue_d {s : Sp} (hs : Pl s) (d : PyData) : sem_is_true_of [.dat s.d, .dat d] = some (.ok (.dat (.bool (trB s d))) [(some (R.dat (s.d))), (some (R.dat (d)))]) := by
  obtain ⟨⟨q1, q2, q3, q4, q5⟩, q6⟩ := hs
  rw [run_is_true_of]
  unfold m_is_true_of
  have kl : k_LATEST = .int 2000 := rfl
  have l := lasting_d d 2000
  by_cases sh : ∃ a b c, d = .tuple [.int a, .int b, .int c]
  · obtain ⟨a, b, c, rfl⟩ := sh
    have de := dEq_sps a b c s
    have i2 : dIxA s.d (.int 2) = some (.dat (.int s.k)) := by simp [Sp.d, atI_nn]
    have i1 : dIxA s.d (.int 1) = some (.dat (.int s.u)) := by simp [Sp.d, atI_nn]
    generalize s.d = C at *
    have lb : lastB 2000 (.tuple [.int a, .int b, .int c]) = ((decide (0 ≤ a) && decide (a ≤ 2000)) && (decide (a + 1 ≤ b) && decide (b ≤ 2000)) && (decide (0 ≤ c) && decide (c ≤ 4))) := rfl
    by_cases cl : lastB 2000 (.tuple [.int a, .int b, .int c]) = true
    · rw [cl] at l
      rw [lb] at cl
      simp only [Bool.and_eq_true, decide_eq_true_eq] at cl
      obtain ⟨⟨⟨c1, c2⟩, c3, c4⟩, c5, c6⟩ := cl
      by_cases ck : 0 < s.k
      · simp [kl, l, i2, ck, de, trB, outs_2, pr_is_true_of]
      · by_cases ca : a = 0
        · subst ca
          by_cases cb : s.u < b
          · have cc : decide (0 < c) = decide (1 ≤ c) := rfl
            simp [kl, l, i2, i1, ck, trB, cb, c4, c6, atI_nn, outs_2, pr_is_true_of]
            omega
          · simp [kl, l, i2, i1, ck, trB, cb, atI_nn, outs_2, pr_is_true_of]
        · simp [kl, l, i2, ck, trB, ca, atI_nn, outs_2, pr_is_true_of]
    · have cl' : lastB 2000 (.tuple [.int a, .int b, .int c]) = false := by simpa using cl
      rw [cl'] at l
      have tf : trB s (.tuple [.int a, .int b, .int c]) = false := by
        rw [lb] at cl
        cases e : trB s (.tuple [.int a, .int b, .int c])
        · rfl
        · exfalso
          apply cl
          unfold trB at e
          simp only [Bool.and_eq_true, decide_eq_true_eq]
          by_cases ck : 0 < s.k
          · simp only [ck, if_true, Bool.and_eq_true, decide_eq_true_eq] at e
            omega
          · simp only [ck, if_false, Bool.and_eq_true, decide_eq_true_eq] at e
            omega
      simp [kl, l, tf, outs_2, pr_is_true_of]
  · rw [lastB_shape sh] at l
    simp [kl, l, trB_shape sh, outs_2, pr_is_true_of]
def trsB (L : List Sp) : PyData → Bool
  | .tuple ds => decide (ds.length = L.length) && (L.zip ds).all fun p => trB p.1 p.2
  | _ => false
theorem zip_pd : ∀ (A : List Sp) (B : List PyData), List.zipWith pairD (A.map Sp.d) B = (A.zip B).map fun p => pairD p.1.d p.2
  | [], _ => by simp
  | _ :: _, [] => by simp
  | s :: r, o :: q => by rw [List.map_cons, List.zipWith_cons_cons, zip_pd r q]; rfl
theorem istruth_d {L : List Sp} (h : Good L) (d : PyData) : sem_is_truth [.dat (.tuple (L.map Sp.d)), .dat d] = some (.ok (.dat (.bool (trsB L d))) [(some (R.dat (.tuple (L.map Sp.d)))), (some (R.dat (d)))]) := by
  have l2 := h.l2
  have by_ : sem_is_truth_by [.dat (.tuple (L.map Sp.d)), .dat d] = some (.ok (.dat (.bool (trsB L d))) [(some (R.dat (.tuple (L.map Sp.d)))), (some (R.dat (d)))]) := by
    rw [run_is_truth_by]
    unfold m_is_truth_by
    cases d with
    | tuple ds =>
      by_cases c : ds.length = L.length
      · have zl : (L.zip ds).length ≤ 40 := by rw [List.length_zip]; omega
        have hl2 := lcL_mp (g := gtM (gsC (gnM 2) (gsC (gnM 3) gs0))) (vs := [2, 3]) (c := yesT) (f := ce1_is_truth_by) (ρ := [(some (R.dat (.tuple (L.map Sp.d)))), (some (R.dat (.tuple ds))), none, none]) (fun p : Sp × PyData => pairD p.1.d p.2) (fun p => .bool (trB p.1 p.2)) (L.zip ds) (by show _ ≤ 100000; omega) (by
          intro p hp
          have := istrue_d (h.p p.1 (List.of_mem_zip hp).1) p.2
          generalize p.1.d = C at *
          simp [ev, ce1_is_truth_by, pairD, this])
        rw [← zip_pd] at hl2
        have al : allD (.list ((L.zip ds).map fun p => .bool (trB p.1 p.2))) = some (.dat (.bool ((L.zip ds).all fun p => trB p.1 p.2))) := by
          have := allD_l ((L.zip ds).map fun p => trB p.1 p.2)
          rw [List.map_map, List.all_map] at this
          exact this
        have zlen : (L.map Sp.d).length = ds.length := by rw [List.length_map, c]
        generalize ((L.zip ds).map fun p => PyData.bool (trB p.1 p.2)) = M at *
        have c' : (ds.length : Int) = (L.length : Int) := by omega
        simp [c, zlen, hl2, al, trsB, outs_2, pr_is_truth_by, -List.zipWith_map, -List.zipWith_map_left, -List.zipWith_map_right]
      · have c' : ¬ (ds.length : Int) = (L.length : Int) := by omega
        simp [c, c', trsB, outs_2, pr_is_truth_by]
    | _ => simp [trsB, outs_2, pr_is_truth_by]
  rw [run_is_truth]
  unfold m_is_truth
  simp [needplain_is h, by_, outs_2, pr_is_truth]
theorem needbook_d {d : PyData} (hl : ∀ ds, d = .tuple ds → ds.length ≤ 100000) : sem_need_book [.dat d] = if bookB d = true then some (.ok (.dat .none) [(some (R.dat (d)))]) else some (.er ix_NoBook [] [(some (R.dat (d)))]) := by
  rw [run_need_book]
  unfold m_need_book
  cases h : bookB d <;> simp [isbook_d hl, h, outs_1, pr_need_book]
theorem needbook_b {d : PyData} (hl : ∀ ds, d = .tuple ds → ds.length ≤ 100000) (h : bookB d = false) : sem_need_book [.dat d] = some (.er ix_NoBook [] [(some (R.dat (d)))]) := by
  rw [needbook_d hl, h]
  rfl
/-- whether all are begun at 0 -/
def plB (L : List Sp) : Bool := L.all fun s => decide (s.b = 0)
theorem any_late {L : List Sp} (h : ∀ s ∈ L, s.Ok) (hp : plB L = false) : (L.map fun s => decide (s.b > 0)).any id = true := by
  rw [List.any_map, List.any_eq_true]
  unfold plB at hp
  rw [← Bool.not_eq_true, List.all_eq_true] at hp
  apply Classical.byContradiction
  intro c
  apply hp
  intro s hs
  apply Classical.byContradiction
  intro z
  apply c
  refine ⟨s, hs, ?_⟩
  have := (h s hs).1
  simp only [decide_eq_true_eq] at z
  show decide (s.b > 0) = true
  rw [decide_eq_true_eq]; omega
theorem needplain_b {d : PyData} (hl : ∀ ds, d = .tuple ds → ds.length ≤ 100000) (h : bookB d = false) : sem_need_plain [.dat d] = some (.er ix_NoBook [] [(some (R.dat (d)))]) := by
  rw [run_need_plain]
  unfold m_need_plain
  simp [needbook_b hl h, outs_1, pr_need_plain]
theorem needplain_l {L : List Sp} (h : ∀ s ∈ L, s.Ok) (h1 : 1 ≤ L.length) (h2 : L.length ≤ 40) (hp : plB L = false) : sem_need_plain [.dat (.tuple (L.map Sp.d))] = some (.er ix_NoPlain [] [(some (R.dat (.tuple (L.map Sp.d))))]) := by
  rw [run_need_plain]
  unfold m_need_plain
  have hl := lcL_mp (g := gtM (gsC (gnM 1) (gsC (gnM 2) (gsC (gnM 3) gs0)))) (vs := [1, 2, 3]) (c := yesT) (f := ce1_need_plain) (ρ := [(some (R.dat (.tuple (L.map Sp.d)))), none, none, none]) Sp.d (fun s => .bool (decide (s.b > 0))) L (Nat.le_trans h2 (by decide)) (by
    intro s hs
    simp [ev, ce1_need_plain, Sp.d])
  have an : anyD (.list (L.map fun s => .bool (decide (s.b > 0)))) = some (.dat (.bool true)) := by
    have := anyD_l (L.map fun s => decide (s.b > 0))
    rw [any_late h hp, List.map_map] at this
    exact this
  have hl' : lcL (gtM (gsC (gnM 1) (gsC (gnM 2) (gsC (gnM 3) gs0)))) [1, 2, 3] yesT ce1_need_plain (L.map Sp.d) [(some (R.dat (.tuple (L.map Sp.d)))), none, none, none] [] = _ := hl
  generalize (L.map fun s => PyData.bool (decide (s.b > 0))) = M at hl hl' an
  simp [need_is h h1 h2, hl', an, outs_1, pr_need_plain]
theorem needtime_b {d : PyData} (h : ftB 0 9999 d = false) : sem_need_time [.dat d] = some (.er ix_NoTime [] [(some (R.dat (d)))]) := by
  rw [run_need_time]
  unfold m_need_time
  simp [fromto_d, k_MOST_TIME, h, outs_1, pr_need_time]
theorem within_d (d : PyData) (l h : Int) : sem__law_within [.dat d, .dat (.int l), .dat (.int h)] = some (.ok (.dat (.bool (ftB l h d))) [(some (R.dat (d))), (some (R.dat (.int l))), (some (R.dat (.int h)))]) := by
  rw [run__law_within]
  unfold m__law_within
  cases d with
  | int i =>
    by_cases c : l ≤ i <;> simp [lwhole_d, whB, ftB, c, outs_3, pr__law_within]
  | _ => simp [lwhole_d, whB, ftB, outs_3, pr__law_within]
def MxA {α : Type} (f : α → PyData) (L : List α) (xs acc : List PyData) (ρ : Rho) : Prop := ∃ (p : PyData) (A B : List α), ρ = [(some (R.own (p))), (some (R.dat (.list (L.map f)))), (some (R.own (.list (B.map f)))), none] ∧ acc = A.map f ∧ (A ++ B).Perm L ∧ B.length = xs.length ∧ Pot p
theorem mixedA_is {α : Type} (f : α → PyData) {p : PyData} (hp : Pot p) {L : List α} (h2 : L.length ≤ 1000) : ∃ (M : List α) (p' : PyData), sem__law_mixed [.own p, .dat (.list (L.map f))] = some (.ok (.own (.list (M.map f))) [(some (R.own (p'))), (some (R.dat (.list (L.map f))))]) ∧ M.Perm L ∧ Pot p' := by
  obtain ⟨ds, ρ', e, p', A, B, rfl, rfl, pm, lb, o⟩ := lcL_inv (g := gnM 3) (vs := [3]) (c := yesT) (f := ce1__law_mixed) (MxA f L) (L.map f) [(some (R.own (p))), (some (R.dat (.list (L.map f)))), (some (R.own (.list (L.map f)))), none] [] (by rw [List.length_map]; show _ ≤ 100000; simp only [List.length_nil]; omega)
    ⟨p, [], L, rfl, rfl, .refl _, by rw [List.length_map], hp⟩ (by
      rintro x r acc ρ ⟨p, A, B, rfl, rfl, pm, lb, o⟩
      rw [List.length_cons] at lb
      have pl := pm.length_eq
      rw [List.length_append] at pl
      obtain ⟨v, p1, d1, l1, g1, o1⟩ := take_is o (b := (B.length : Int)) (by omega) (by omega)
      obtain ⟨n, rfl⟩ := Int.eq_ofNat_of_zero_le l1
      have hn : n < B.length := by omega
      have pr := fun ρ => popR_is (i := 2) (k := (n : Int)) (ρ := ρ) (ds := B.map f) (d := f B[n]) l1 (by
        rw [show (n : Int).toNat = n by omega, List.getElem?_map, List.getElem?_eq_getElem hn]; rfl) (by rw [List.length_map]; omega)
      rw [show (n : Int).toNat = n by omega] at pr
      have er : (B.map f).eraseIdx n = (B.eraseIdx n).map f := by
        rw [List.eraseIdx_eq_take_drop_succ, List.eraseIdx_eq_take_drop_succ, List.map_append, List.map_take, List.map_drop]
      rw [er] at pr
      refine ⟨_, _, rfl, .inl ⟨.dat (f B[n]), [(some (R.own (p1))), (some (R.dat (.list (L.map f)))), (some (R.own (.list ((B.eraseIdx n).map f)))), (some (R.dat (x)))], _, f B[n], rfl, ?_, rfl, p1, A ++ [B[n]], B.eraseIdx n, rfl, by rw [List.map_append]; rfl, ?_, ?_, o1⟩⟩
      · unfold ce1__law_mixed
        have lB : (B.map f).length = B.length := List.length_map _
        generalize B.map f = BD at *
        generalize (B.eraseIdx n).map f = BE at *
        generalize f B[n] = X at *
        simp [lB, d1, pr]
      · refine .trans ?_ pm
        rw [List.append_assoc]
        refine List.Perm.append_left A ?_
        rw [List.eraseIdx_eq_take_drop_succ, List.singleton_append]
        have : B = B.take n ++ B[n] :: B.drop (n + 1) := by rw [List.getElem_cons_drop, List.take_append_drop]
        conv => rhs; rw [this]
        exact List.perm_middle.symm
      · rw [List.length_eraseIdx_of_lt hn]; omega)
  have B0 : B = [] := List.length_eq_zero_iff.mp (by simpa using lb)
  subst B0
  rw [List.append_nil] at pm
  refine ⟨A, p', ?_, pm, o⟩
  rw [run__law_mixed]
  unfold m__law_mixed
  generalize L.map f = LD at *
  simp [e, outs_2, pr__law_mixed]
theorem rp_sp {s : Sp} (h : s.Ok) : Rp 48 1 s.d := by
  obtain ⟨h1, h2, h3, h4, h5⟩ := h
  refine Rp.tuple (n := 13) (m := 0) (k := 3) ?_ (by simp)
  intro d hd
  simp only [List.mem_cons, List.not_mem_nil, or_false] at hd
  rcases hd with rfl | rfl | rfl
  · exact Rp.int (by omega)
  · exact Rp.int (by omega)
  · exact Rp.int (by omega)
theorem sd_book74 (ρ : Rho) : saidR mt_SpanError wd__law_said (some (.er ix_NoBook [] ρ)) = some (.ok (.dat (.tuple [.str "book"])) ρ) := saidR_er rfl rfl ρ
theorem sd_plain74 (ρ : Rho) : saidR mt_SpanError wd__law_said (some (.er ix_NoPlain [] ρ)) = some (.ok (.dat (.tuple [.str "plain"])) ρ) := saidR_er rfl rfl ρ
theorem sd_time74 (ρ : Rho) : saidR mt_SpanError wd__law_said (some (.er ix_NoTime [] ρ)) = some (.ok (.dat (.tuple [.str "time"])) ρ) := saidR_er rfl rfl ρ
theorem lams_w {w : Str} {ρ : Rho} : ∀ {fs : List EM} {acc : List PyData}, (∀ f ∈ fs, ∃ x, saidR mt_SpanError wd__law_said (f ρ) = some (.ok (.dat (.tuple (.str w :: x))) ρ)) → fs.length + acc.length ≤ 100 → lamsL mt_SpanError wd__law_said fs ρ acc = some (.ok (.own (.list (acc ++ List.replicate fs.length (.str w)))) ρ)
  | [], acc, _, _ => by simp [lamsL]
  | f :: fs, acc, h, hl => by
    obtain ⟨x, e⟩ := h f (List.mem_cons_self ..)
    rw [List.length_cons] at hl
    show lamsR _ (saidR mt_SpanError wd__law_said (f ρ)) = _
    rw [e]
    show (if acc.length < lim then lamsL mt_SpanError wd__law_said fs ρ (acc ++ [.str w]) else none) = _
    rw [if_pos (show acc.length < 100000 by omega), lams_w (fun g hg => h g (List.mem_cons_of_mem _ hg)) (by rw [List.length_append]; simp only [List.length_cons, List.length_nil]; omega)]
    rw [List.append_assoc, List.length_cons, List.replicate_succ]
    rfl
def rpB (d : PyData) : Bool := d.showable && decide (d.shown.length ≤ 3000) && decide (d.depth ≤ 4)
theorem rp_of {d : PyData} (h : rpB d = true) : Rp 3000 4 d := by
  unfold rpB at h
  simp only [Bool.and_eq_true, decide_eq_true_eq] at h
  exact ⟨h.1.1, h.1.2, h.2⟩
theorem oddL_rp : oddL.all rpB = true := by decide +kernel
theorem odd_in {p : PyData} (hp : Pot p) : ∃ (d p' : PyData), sem__law_odd [.own p] = some (.ok (.dat d) [(some (R.own (p')))]) ∧ Rp 3000 4 d ∧ Pot p' := by
  obtain ⟨v, p1, d1, l1, g1, o1⟩ := take_is hp (b := 16) (by omega) (by omega)
  obtain ⟨x, i1, hx⟩ := atI_of (xs := oddL) (i := v) l1 (by show v < 16; omega)
  refine ⟨x, p1, ?_, rp_of (List.all_eq_true.mp oddL_rp x hx), o1⟩
  have pw : dPow (.int 10) (.int 11) = some (.dat (.int 100000000000)) := by simp [dPow]
  rw [run__law_odd]
  unfold m__law_odd
  unfold oddL at i1
  have dc : ∀ ρ, dctR [(.int 0, .int 1)] ρ = some (.ok (.own (.dict [(.int 0, .int 1)])) ρ) := fun ρ => if_pos (by decide +kernel)
  simp [pw, dc, d1, i1, outs_1, pr__law_odd]
/-- a thing that is asked as a book, and the word that is owed -/
structure Bk (d : PyData) (w : Str) : Prop where
  r : Rp 3000 4 d
  c : (w = "told" ∧ ∃ L, d = .tuple (L.map Sp.d) ∧ Sm L) ∨ (w = "plain" ∧ sem_need_plain [.dat d] = some (.er ix_NoPlain [] [(some (R.dat (d)))])) ∨ (w = "book" ∧ sem_need_plain [.dat d] = some (.er ix_NoBook [] [(some (R.dat (d)))]))
theorem Bk.w3 {d : PyData} {w : Str} (h : Bk d w) : w = "told" ∨ w = "plain" ∨ w = "book" := h.c.imp (fun z => z.1) fun z => z.imp (fun z => z.1) fun z => z.1
/-- a refused first thing -/
structure Rf (d : PyData) (w : Str) : Prop where
  e : ∃ c, sem_need_plain [.dat d] = some (.er c [] [(some (R.dat (d)))]) ∧ ∀ ρ, saidR mt_SpanError wd__law_said (some (.er c [] ρ)) = some (.ok (.dat (.tuple [.str w])) ρ)
theorem Bk.rf {d : PyData} {w : Str} (h : Bk d w) (n : w ≠ "told") : Rf d w := by
  rcases h.c with ⟨e, _⟩ | ⟨rfl, z⟩ | ⟨rfl, z⟩
  · exact absurd e n
  · exact ⟨_, z, sd_plain74⟩
  · exact ⟨_, z, sd_book74⟩
section
variable {d t o : PyData} {w : Str}
theorem alone_rf (h : Rf d w) : sem__law_alone [.dat d, .dat t] = some (.ok (.own (.list [.str w, .str w, .str w])) [(some (R.dat (d))), (some (R.dat (t)))]) := by
  obtain ⟨c, nf, sd⟩ := h.e
  have e1 : sem_is_truth [.dat d, .dat t] = some (.er c [] [(some (R.dat (d))), (some (R.dat (t)))]) := by rw [run_is_truth]; unfold m_is_truth; simp [nf, outs_2, pr_is_truth]
  have e2 : sem_soonest [.dat d] = some (.er c [] [(some (R.dat (d)))]) := by rw [run_soonest]; unfold m_soonest; simp [nf, outs_1, pr_soonest]
  have e3 : sem_latest [.dat d] = some (.er c [] [(some (R.dat (d)))]) := by rw [run_latest]; unfold m_latest; simp [nf, outs_1, pr_latest]
  have l := lams_w (w := w) (ρ := [(some (R.dat (d))), (some (R.dat (t))), none, none]) (fs := [lb1__law_alone, lb2__law_alone, lb3__law_alone]) (acc := []) (by
    intro f hf
    simp only [List.mem_cons, List.not_mem_nil, or_false] at hf
    rcases hf with rfl | rfl | rfl
    · exact ⟨[], by unfold lb1__law_alone; simp [e1, sd]⟩
    · exact ⟨[], by unfold lb2__law_alone; simp [e2, sd]⟩
    · exact ⟨[], by unfold lb3__law_alone; simp [e3, sd]⟩) (by decide)
  rw [run__law_alone]
  unfold m__law_alone lamsM retM lamsE
  simp only [l]
  rfl
theorem alone_told {L : List Sp} (h : Sm L) : sem__law_alone [.dat (.tuple (L.map Sp.d)), .dat t] = some (.ok (.own (.list [.str "told", .str "told", .str "told"])) [(some (R.dat (.tuple (L.map Sp.d)))), (some (R.dat (t)))]) := by
  have e1 := istruth_d h.g t
  have e2 := soonest_is h
  have e3 := latest_is h
  generalize (L.map soonS).map Sp.d = S1 at *
  generalize (L.map lateS).map Sp.d = S2 at *
  generalize trsB L t = B at *
  generalize L.map Sp.d = LD at *
  have l := lams_w (w := "told") (ρ := [(some (R.dat (.tuple LD))), (some (R.dat (t))), none, none]) (fs := [lb1__law_alone, lb2__law_alone, lb3__law_alone]) (acc := []) (by
    intro f hf
    simp only [List.mem_cons, List.not_mem_nil, or_false] at hf
    rcases hf with rfl | rfl | rfl
    · exact ⟨_, by unfold lb1__law_alone; simp only [callM_e, consA_e, nmM_e, nilA_e]; simp [e1]; rfl⟩
    · exact ⟨_, by unfold lb2__law_alone; simp [e2]; rfl⟩
    · exact ⟨_, by unfold lb3__law_alone; simp [e3]; rfl⟩) (by decide)
  rw [run__law_alone]
  unfold m__law_alone lamsM retM lamsE
  simp only [l]
  rfl
end
section
variable {d t o : PyData} {w : Str}
theorem bounds_rf (h : Rf d w) (ρ1 : Rho) : ∃ c, sem_bounds [.dat d, .dat t] = some (.er c [] [(some (R.dat (d))), (some (R.dat (t)))]) ∧ ∀ ρ, saidR mt_SpanError wd__law_said (some (.er c [] ρ)) = some (.ok (.dat (.tuple [.str w])) ρ) := by
  obtain ⟨c, nf, sd⟩ := h.e
  exact ⟨c, by rw [run_bounds]; unfold m_bounds; simp [nf, outs_2, pr_bounds], sd⟩
theorem bounds_time {L : List Sp} (h : Sm L) (ht : ftB 0 9999 t = false) : sem_bounds [.dat (.tuple (L.map Sp.d)), .dat t] = some (.er ix_NoTime [] [(some (R.dat (.tuple (L.map Sp.d)))), (some (R.dat (t)))]) := by
  have np := needplain_is h.g
  have nt := needtime_b ht
  generalize L.map Sp.d = LD at *
  rw [run_bounds]
  unfold m_bounds
  simp [np, nt, outs_2, pr_bounds]
theorem bounds_told {L : List Sp} (h : Sm L) (ht : ftB 0 9999 t = true) : ∃ z, sem_bounds [.dat (.tuple (L.map Sp.d)), .dat t] = some (.ok (.dat z) [(some (R.dat (.tuple (L.map Sp.d)))), (some (R.dat (t)))]) := by
  cases t with
  | int i =>
    have ht : (decide (0 ≤ i) && decide (i ≤ 9999)) = true := by
      unfold ftB at ht
      simpa using ht
    simp only [Bool.and_eq_true, decide_eq_true_eq] at ht
    exact ⟨_, bounds_is h ht.1 ht.2⟩
  | _ => cases ht
theorem words_rf (h : Rf d w) : sem__law_words [.dat d, .dat o] = some (.ok (.own (.list [.str w, .str w, .str w, .str w, .str w])) [(some (R.dat (d))), (some (R.dat (o)))]) := by
  obtain ⟨c, nf, sd⟩ := h.e
  have e1 : sem_may_outlast [.dat d, .dat o] = some (.er c [] [(some (R.dat (d))), (some (R.dat (o)))]) := by rw [run_may_outlast]; unfold m_may_outlast; simp [nf, outs_2, pr_may_outlast]
  have e2 : sem_must_outlast [.dat d, .dat o] = some (.er c [] [(some (R.dat (d))), (some (R.dat (o)))]) := by rw [run_must_outlast]; unfold m_must_outlast; simp [nf, outs_2, pr_must_outlast]
  have e3 : sem_shows_may [.dat d, .dat o, .dat .none] = some (.er c [] [(some (R.dat (d))), (some (R.dat (o))), (some (R.dat (.none)))]) := by rw [run_shows_may]; unfold m_shows_may; simp [nf, outs_3, pr_shows_may]
  have e4 : sem_shows_never [.dat d, .dat o, .dat .none] = some (.er c [] [(some (R.dat (d))), (some (R.dat (o))), (some (R.dat (.none)))]) := by rw [run_shows_never]; unfold m_shows_never; simp [nf, outs_3, pr_shows_never]
  have e5 : sem_shows_not [.dat d, .dat o, .dat .none] = some (.er c [] [(some (R.dat (d))), (some (R.dat (o))), (some (R.dat (.none)))]) := by rw [run_shows_not]; unfold m_shows_not; simp [nf, outs_3, pr_shows_not]
  have l := lams_w (w := w) (ρ := [(some (R.dat (d))), (some (R.dat (o))), none, none]) (fs := [lb1__law_words, lb2__law_words, lb3__law_words, lb4__law_words, lb5__law_words]) (acc := []) (by
    intro f hf
    simp only [List.mem_cons, List.not_mem_nil, or_false] at hf
    rcases hf with rfl | rfl | rfl | rfl | rfl
    · exact ⟨[], by unfold lb1__law_words; simp [e1, sd]⟩
    · exact ⟨[], by unfold lb2__law_words; simp [e2, sd]⟩
    · exact ⟨[], by unfold lb3__law_words; simp [e3, sd]⟩
    · exact ⟨[], by unfold lb4__law_words; simp [e4, sd]⟩
    · exact ⟨[], by unfold lb5__law_words; simp [e5, sd]⟩) (by decide)
  rw [run__law_words]
  unfold m__law_words lamsM retM lamsE
  simp only [l]
  rfl
theorem words_rf2 {L : List Sp} (hL : Sm L) (h : Rf o w) : sem__law_words [.dat (.tuple (L.map Sp.d)), .dat o] = some (.ok (.own (.list [.str w, .str w, .str w, .str w, .str w])) [(some (R.dat (.tuple (L.map Sp.d)))), (some (R.dat (o)))]) := by
  obtain ⟨c, nf, sd⟩ := h.e
  have np := needplain_is hL.g
  generalize L.map Sp.d = LD at *
  have e1 : sem_may_outlast [.dat (.tuple LD), .dat o] = some (.er c [] [(some (R.dat (.tuple LD))), (some (R.dat (o)))]) := by rw [run_may_outlast]; unfold m_may_outlast; simp [np, nf, outs_2, pr_may_outlast]
  have e2 : sem_must_outlast [.dat (.tuple LD), .dat o] = some (.er c [] [(some (R.dat (.tuple LD))), (some (R.dat (o)))]) := by rw [run_must_outlast]; unfold m_must_outlast; simp [np, nf, outs_2, pr_must_outlast]
  have e3 : sem_shows_may [.dat (.tuple LD), .dat o, .dat .none] = some (.er c [] [(some (R.dat (.tuple LD))), (some (R.dat (o))), (some (R.dat (.none)))]) := by rw [run_shows_may]; unfold m_shows_may; simp [np, nf, outs_3, pr_shows_may]
  have e4 : sem_shows_never [.dat (.tuple LD), .dat o, .dat .none] = some (.er c [] [(some (R.dat (.tuple LD))), (some (R.dat (o))), (some (R.dat (.none)))]) := by rw [run_shows_never]; unfold m_shows_never; simp [np, nf, outs_3, pr_shows_never]
  have e5 : sem_shows_not [.dat (.tuple LD), .dat o, .dat .none] = some (.er c [] [(some (R.dat (.tuple LD))), (some (R.dat (o))), (some (R.dat (.none)))]) := by rw [run_shows_not]; unfold m_shows_not; simp [np, nf, outs_3, pr_shows_not]
  have l := lams_w (w := w) (ρ := [(some (R.dat (.tuple LD))), (some (R.dat (o))), none, none]) (fs := [lb1__law_words, lb2__law_words, lb3__law_words, lb4__law_words, lb5__law_words]) (acc := []) (by
    intro f hf
    simp only [List.mem_cons, List.not_mem_nil, or_false] at hf
    rcases hf with rfl | rfl | rfl | rfl | rfl
    · exact ⟨[], by unfold lb1__law_words; simp [e1, sd]⟩
    · exact ⟨[], by unfold lb2__law_words; simp [e2, sd]⟩
    · exact ⟨[], by unfold lb3__law_words; simp [e3, sd]⟩
    · exact ⟨[], by unfold lb4__law_words; simp [e4, sd]⟩
    · exact ⟨[], by unfold lb5__law_words; simp [e5, sd]⟩) (by decide)
  rw [run__law_words]
  unfold m__law_words lamsM retM lamsE
  simp only [l]
  rfl
theorem words_told {L M : List Sp} (hL : Sm L) (hM : Sm M) : sem__law_words [.dat (.tuple (L.map Sp.d)), .dat (.tuple (M.map Sp.d))] = some (.ok (.own (.list [.str "told", .str "told", .str "told", .str "told", .str "told"])) [(some (R.dat (.tuple (L.map Sp.d)))), (some (R.dat (.tuple (M.map Sp.d))))]) := by
  have np := needplain_is hL.g
  have nq := needplain_is hM.g
  have e1 := may_is hL hM
  have e2 := must_is hL hM
  have kt : k_MOST_TIME = .int 9999 := rfl
  have ft : ∀ (a b : Int), sem_is_from_to [.dat .none, .dat (.int a), .dat (.int b)] = some (.ok (.dat (.bool false)) [(some (R.dat (.none))), (some (R.dat (.int a))), (some (R.dat (.int b)))]) := fun a b => fromto_d .none a b
  have at_ : ∀ A B : PyData, sem_are_truths [.dat A, .dat B, .dat .none] = some (.ok (.dat (.bool false)) [(some (R.dat (A))), (some (R.dat (B))), (some (R.dat (.none)))]) := fun A B => by rw [run_are_truths]; unfold m_are_truths; simp [outs_3, pr_are_truths]
  generalize mayD (L.map lateS) (M.map soonS) = D1 at *
  generalize mustD (L.map soonS) (M.map lateS) = D2 at *
  generalize L.map Sp.d = LD at *
  generalize M.map Sp.d = MD at *
  have e3 : sem_shows_may [.dat (.tuple LD), .dat (.tuple MD), .dat .none] = some (.ok (.dat (.bool false)) [(some (R.dat (.tuple LD))), (some (R.dat (.tuple MD))), (some (R.dat (.none)))]) := by rw [run_shows_may]; unfold m_shows_may; simp [np, nq, at_, outs_3, pr_shows_may]
  have e4 : sem_shows_never [.dat (.tuple LD), .dat (.tuple MD), .dat .none] = some (.ok (.dat (.bool false)) [(some (R.dat (.tuple LD))), (some (R.dat (.tuple MD))), (some (R.dat (.none)))]) := by rw [run_shows_never]; unfold m_shows_never; simp [np, nq, kt, ft, outs_3, pr_shows_never]
  have e5 : sem_shows_not [.dat (.tuple LD), .dat (.tuple MD), .dat .none] = some (.ok (.dat (.bool false)) [(some (R.dat (.tuple LD))), (some (R.dat (.tuple MD))), (some (R.dat (.none)))]) := by rw [run_shows_not]; unfold m_shows_not; simp [np, nq, at_, outs_3, pr_shows_not]
  have l := lams_w (w := "told") (ρ := [(some (R.dat (.tuple LD))), (some (R.dat (.tuple MD))), none, none]) (fs := [lb1__law_words, lb2__law_words, lb3__law_words, lb4__law_words, lb5__law_words]) (acc := []) (by
    intro f hf
    simp only [List.mem_cons, List.not_mem_nil, or_false] at hf
    rcases hf with rfl | rfl | rfl | rfl | rfl
    · exact ⟨[D1], by unfold lb1__law_words; simp [e1]⟩
    · exact ⟨[D2], by unfold lb2__law_words; simp [e2]⟩
    · exact ⟨[.bool false], by unfold lb3__law_words; simp [e3]⟩
    · exact ⟨[.bool false], by unfold lb4__law_words; simp [e4]⟩
    · exact ⟨[.bool false], by unfold lb5__law_words; simp [e5]⟩) (by decide)
  rw [run__law_words]
  unfold m__law_words lamsM retM lamsE
  simp only [l]
  rfl
end
section
variable {d t o : PyData} {w w2 : Str} {e0 e1 e2 e3 e4 e5 e6 e7 e8 e9 e10 e11 e12 : Option R}
theorem rp_dt {n m : Nat} {d t : PyData} (h : Rp 3000 4 d) (k : Rp 3000 4 t) : reprD (.tuple [d, t]) = some (.dat (.str (PyData.shown (.tuple [d, t])))) := by
  refine (Rp.tuple (n := 3000) (m := 4) (k := 2) ?_ (by simp)).reprD (by decide) (by decide)
  intro x hx
  simp only [List.mem_cons, List.not_mem_nil, or_false] at hx
  rcases hx with rfl | rfl
  · exact h
  · exact k
theorem i0 (S : Str) (d : List PyData) : atI (PyData.str S :: d) 0 = some (.str S) := by rw [atI_nn _ _ (by omega)]; rfl
theorem time_turn (hd : Bk d w) (ht : Rp 3000 4 t) : ∃ f9 f10, fb1_law [e0, e1, e2, e3, e4, e5, (some (R.dat (d))), (some (R.dat (.str w))), (some (R.dat (t))), e9, e10, e11, e12, none] = some (.nx [e0, e1, e2, e3, e4, e5, (some (R.dat (d))), (some (R.dat (.str w))), (some (R.dat (t))), f9, f10, e11, e12, none]) := by
  have rp := rp_dt (n := 0) (m := 0) hd.r ht
  generalize hK : PyData.shown (.tuple [d, t]) = K at rp
  by_cases hw : w = "told"
  · subst hw
    rcases hd.c with ⟨_, L, rfl, hL⟩ | ⟨e, _⟩ | ⟨e, _⟩
    · cases hf : ftB 0 9999 t with
      | false =>
        have b := bounds_time hL hf
        refine ⟨(some (R.dat (.str "time"))), (some (R.dat (.str K))), ?_⟩
        generalize L.map Sp.d = LD at *
        unfold fb1_law lb1_law
        simp [within_d, hf, rp, b, sd_time74, i0]
      | true =>
        obtain ⟨z, b⟩ := bounds_told hL hf
        refine ⟨(some (R.dat (.str "told"))), (some (R.dat (.str K))), ?_⟩
        generalize L.map Sp.d = LD at *
        unfold fb1_law lb1_law
        simp [within_d, hf, rp, b, i0]
    · exact absurd e (by decide +kernel)
    · exact absurd e (by decide +kernel)
  · obtain ⟨c, b, sd⟩ := bounds_rf (t := t) (hd.rf hw) []
    refine ⟨(some (R.dat (.str w))), (some (R.dat (.str K))), ?_⟩
    unfold fb1_law lb1_law
    simp [hw, rp, b, sd, i0]
theorem ne3 (h : w = "told" ∨ w = "plain" ∨ w = "book") : dNe (.list [.str w, .str w, .str w]) (.list [.str w, .str w, .str w]) = some (.dat (.bool false)) := by
  rcases h with rfl | rfl | rfl <;> kernel_rfl
theorem ne5 (h : w = "told" ∨ w = "plain" ∨ w = "book") : dNe (.list [.str w, .str w, .str w, .str w, .str w]) (.list [.str w, .str w, .str w, .str w, .str w]) = some (.dat (.bool false)) := by
  rcases h with rfl | rfl | rfl <;> kernel_rfl
theorem alone_is (hd : Bk d w) : sem__law_alone [.dat d, .dat t] = some (.ok (.own (.list [.str w, .str w, .str w])) [(some (R.dat (d))), (some (R.dat (t)))]) := by
  by_cases hw : w = "told"
  · subst hw
    rcases hd.c with ⟨_, L, rfl, hL⟩ | ⟨e, _⟩ | ⟨e, _⟩
    · exact alone_told hL
    · exact absurd e (by decide +kernel)
    · exact absurd e (by decide +kernel)
  · exact alone_rf (hd.rf hw)
/-- the word that is owed of two -/
def w2W (w w2 : Str) : Str := if w = "told" then w2 else w
theorem w2W_3 (hd : Bk d w) (ho : Bk o w2) : w2W w w2 = "told" ∨ w2W w w2 = "plain" ∨ w2W w w2 = "book" := by
  unfold w2W
  split
  · exact ho.w3
  · exact hd.w3
theorem words_is (hd : Bk d w) (ho : Bk o w2) : sem__law_words [.dat d, .dat o] = some (.ok (.own (.list [.str (w2W w w2), .str (w2W w w2), .str (w2W w w2), .str (w2W w w2), .str (w2W w w2)])) [(some (R.dat (d))), (some (R.dat (o)))]) := by
  unfold w2W
  by_cases hw : w = "told"
  · rw [if_pos hw]
    subst hw
    rcases hd.c with ⟨_, L, rfl, hL⟩ | ⟨e, _⟩ | ⟨e, _⟩
    · by_cases hw2 : w2 = "told"
      · subst hw2
        rcases ho.c with ⟨_, M, rfl, hM⟩ | ⟨e, _⟩ | ⟨e, _⟩
        · exact words_told hL hM
        · exact absurd e (by decide +kernel)
        · exact absurd e (by decide +kernel)
      · exact words_rf2 hL (ho.rf hw2)
    · exact absurd e (by decide +kernel)
    · exact absurd e (by decide +kernel)
  · rw [if_neg hw]
    exact words_rf (hd.rf hw)
theorem words_turn (hd : Bk d w) (ho : Bk o w2) : ∃ f9 f10, fb3_law [e0, e1, e2, e3, e4, e5, (some (R.dat (d))), (some (R.dat (.str w))), e8, e9, e10, (some (R.dat (o))), (some (R.dat (.str w2))), none] = some (.nx [e0, e1, e2, e3, e4, e5, (some (R.dat (d))), (some (R.dat (.str w))), e8, f9, f10, (some (R.dat (o))), (some (R.dat (.str w2))), none]) := by
  have rp := rp_dt (n := 0) (m := 0) hd.r ho.r
  generalize hK : PyData.shown (.tuple [d, o]) = K at rp
  have wi := words_is hd ho
  have n5 := ne5 (w2W_3 hd ho)
  refine ⟨(some (R.dat (.str (w2W w w2)))), (some (R.dat (.str K))), ?_⟩
  have hW : w2W w w2 = if w = "told" then w2 else w := rfl
  generalize w2W w w2 = V at *
  unfold fb3_law
  by_cases hw : w = "told"
  · rw [if_pos hw] at hW
    subst hW hw
    simp [rp, wi, n5, lim]
  · rw [if_neg hw] at hW
    subst hW
    simp [hw, rp, wi, n5, lim]
end
/-- what is no book, shown in few signs -/
structure Bad (d : PyData) : Prop where
  b : bookB d = false
  l : ∀ ds, d = .tuple ds → ds.length ≤ 100000
  r : Rp 3000 4 d
def nb15 : List PyData := [.none, .tuple [], .list [.tuple [.int 0, .int 1, .int 0]], .tuple [.tuple [.int 0, .int 0, .int 1]], .tuple [.tuple [.int 0, .int 1000, .int 0]], .tuple [.tuple [.int 0, .int 5, .int 5]], .tuple [.tuple [.int 0, .int 5, .bool true]], .tuple [.tuple [.int (-1), .int 5, .int 0]], .tuple [.tuple [.int 0, .int 5]],
  .tuple (List.replicate 41 (.tuple [.int 0, .int 1, .int 1])), .str "0-1", .dict [], .tuple [.tuple [.int 5, .int 5, .int 0]], .tuple [.list [.int 0, .int 5, .int 1]], .tuple [.tuple [.int 0, .int 5, .int 1], .none]]
theorem nobooks_is : sem__law_no_books [] = some (.ok (.own (.list nb15)) []) := by kernel_rfl
def badB (d : PyData) : Bool := !bookB d && (match d with | .tuple ds => decide (ds.length ≤ 100000) | _ => true) && d.showable && decide (d.shown.length ≤ 3000) && decide (d.depth ≤ 4)
theorem bad_of {d : PyData} (h : badB d = true) : Bad d := by
  unfold badB at h
  simp only [Bool.and_eq_true, Bool.not_eq_true', decide_eq_true_eq] at h
  refine ⟨h.1.1.1.1, fun ds e => ?_, ⟨h.1.1.2, h.1.2, h.2⟩⟩
  subst e
  simpa using h.1.1.1.2
def sp011 : Sp := ⟨0, 1, 1⟩
theorem bad41 : Bad (.tuple (List.replicate 41 (.tuple [.int 0, .int 1, .int 1]))) := by
  have h : Rp _ _ (.tuple (List.replicate 41 (.tuple [.int 0, .int 1, .int 1]))) := Rp.tuple (n := 48) (m := 1) (k := 41) (fun d hd => by
    rw [(List.mem_replicate.mp hd).2]
    exact rp_sp (s := sp011) ⟨by decide, by decide, by decide, by decide, by decide⟩) (by simp)
  refine ⟨by simp [bookB], fun ds e => ?_, h.mono (by decide) (by decide)⟩
  cases e
  simp
theorem nb_1 : (nb15.take 9).all badB = true := by decide +kernel
theorem nb_2 : (nb15.drop 10).all badB = true := by decide +kernel
theorem nb_bad : ∀ d ∈ nb15, Bad d := by
  have e : nb15 = nb15.take 9 ++ (.tuple (List.replicate 41 (.tuple [.int 0, .int 1, .int 1])) :: nb15.drop 10) := rfl
  intro d hd
  rw [e] at hd
  rcases List.mem_append.mp hd with hd | hd
  · exact bad_of (List.all_eq_true.mp nb_1 d hd)
  · rcases List.mem_cons.mp hd with rfl | hd
    · exact bad41
    · exact bad_of (List.all_eq_true.mp nb_2 d hd)
theorem rp_bk {L : List Sp} (h : ∀ s ∈ L, s.Ok) (h2 : L.length ≤ 40) : Rp 3000 4 (.tuple (L.map Sp.d)) := by
  refine (Rp.tuple (n := 48) (m := 1) (k := 40) (fun d hd => ?_) (by rw [List.length_map]; exact h2)).mono (by decide) (by decide)
  obtain ⟨s, hs, rfl⟩ := List.mem_map.mp hd
  exact rp_sp (h s hs)
section
variable {d : PyData} {w : Str} {e0 e1 e3 e4 e5 e6 e7 e8 e9 e10 e11 e12 : Option R}
theorem times_turn {p : PyData} (hp : Pot p) (hd : Bk d w) : ∃ p' f8 f9 f10, Pot p' ∧ fb2_law [e0, e1, (some (R.own (p))), e3, e4, e5, (some (R.dat (d))), (some (R.dat (.str w))), e8, e9, e10, e11, e12, none] = some (.nx [e0, e1, (some (R.own (p'))), e3, e4, e5, (some (R.dat (d))), (some (R.dat (.str w))), f8, f9, f10, e11, e12, none]) := by
  obtain ⟨t, p1, c1, _, o1⟩ := odd_in hp
  obtain ⟨u, p2, c2, hu, o2⟩ := odd_in o1
  have al := alone_is (t := t) hd
  have n3 := ne3 hd.w3
  obtain ⟨T, hT⟩ : ∃ T, T = [PyData.int 0, .int 9999, .int (-1), .int 10000, .bool true, .none, .str "1", .tuple [.int 1], u] := ⟨_, rfl⟩
  have lT : T.length = 9 := by rw [hT]; rfl
  have hT2 : ∀ x ∈ T, Rp 3000 4 x := by
    intro x hx
    rw [hT] at hx
    simp only [List.mem_cons, List.not_mem_nil, or_false] at hx
    rcases hx with rfl | rfl | rfl | rfl | rfl | rfl | rfl | rfl | rfl
    · exact rp_of (by decide +kernel)
    · exact rp_of (by decide +kernel)
    · exact rp_of (by decide +kernel)
    · exact rp_of (by decide +kernel)
    · exact rp_of (by decide +kernel)
    · exact rp_of (by decide +kernel)
    · exact rp_of (by decide +kernel)
    · exact rp_of (by decide +kernel)
    · exact hu
  obtain ⟨ρ1, f1, _, f8, f9, f10, rfl⟩ := forL_inv (g := gnM 8) (body := fb1_law) (fun xs ρ => (∀ d ∈ xs, Rp 3000 4 d) ∧ ∃ f8 f9 f10, ρ = [e0, e1, (some (R.own (p2))), e3, e4, e5, (some (R.dat (d))), (some (R.dat (.str w))), f8, f9, f10, e11, e12, none]) T [e0, e1, (some (R.own (p2))), e3, e4, e5, (some (R.dat (d))), (some (R.dat (.str w))), e8, e9, e10, e11, e12, none] ⟨hT2, _, _, _, rfl⟩ (by
    rintro x r ρ ⟨hh, f8, f9, f10, rfl⟩
    obtain ⟨g9, g10, f⟩ := time_turn (e0 := e0) (e1 := e1) (e2 := (some (R.own (p2)))) (e3 := e3) (e4 := e4) (e5 := e5) (e9 := f9) (e10 := f10) (e11 := e11) (e12 := e12) hd (hh x (List.mem_cons_self ..))
    exact ⟨_, _, rfl, .inl f, fun y hy => hh y (List.mem_cons_of_mem _ hy), _, _, _, rfl⟩)
  refine ⟨p2, f8, f9, f10, o2, ?_⟩
  unfold fb2_law
  simp [c1, c2, al, n3, hT.symm, lT, f1, lim]
/-- a thing with its word -/
def Pr (x : PyData) : Prop := ∃ d w, x = .tuple [d, .str w] ∧ Bk d w
theorem others_turn {p : PyData} {A : List PyData} (hp : Pot p) (hA : ∀ x ∈ A, Pr x) (lA : 2 ≤ A.length) (lA2 : A.length ≤ 1000) (hd : Bk d w) : ∃ p' f9 f10 f11 f12, Pot p' ∧ fb4_law [e0, e1, (some (R.own (p))), e3, e4, (some (R.dat (.list A))), (some (R.dat (d))), (some (R.dat (.str w))), e8, e9, e10, e11, e12, none] = some (.nx [e0, e1, (some (R.own (p'))), e3, e4, (some (R.dat (.list A))), (some (R.dat (d))), (some (R.dat (.str w))), e8, f9, f10, f11, f12, none]) := by
  obtain ⟨v, p1, c1, v0, v1, o1⟩ := take_is hp (b := (A.length : Int)) (by omega) (by omega)
  obtain ⟨x, ix, hx⟩ := atI_of (xs := A) (i := v) v0 (by omega)
  obtain ⟨y, iy, hy⟩ := atI_of (xs := A) (i := 0) (by omega) (by omega)
  obtain ⟨z, iz, hz⟩ := atI_of (xs := A) (i := 1) (by omega) (by omega)
  obtain ⟨T, hT⟩ : ∃ T, T = [x, y, z] := ⟨_, rfl⟩
  have lT : T.length = 3 := by rw [hT]; rfl
  have hT2 : ∀ q ∈ T, Pr q := by
    intro q hq
    rw [hT] at hq
    simp only [List.mem_cons, List.not_mem_nil, or_false] at hq
    rcases hq with rfl | rfl | rfl
    · exact hA _ hx
    · exact hA _ hy
    · exact hA _ hz
  obtain ⟨ρ1, f1, _, f9, f10, f11, f12, rfl⟩ := forL_inv (g := gtM (gsC (gnM 11) (gsC (gnM 12) gs0))) (body := fb3_law) (fun xs ρ => (∀ q ∈ xs, Pr q) ∧ ∃ f9 f10 f11 f12, ρ = [e0, e1, (some (R.own (p1))), e3, e4, (some (R.dat (.list A))), (some (R.dat (d))), (some (R.dat (.str w))), e8, f9, f10, f11, f12, none]) T [e0, e1, (some (R.own (p1))), e3, e4, (some (R.dat (.list A))), (some (R.dat (d))), (some (R.dat (.str w))), e8, e9, e10, e11, e12, none] ⟨hT2, _, _, _, _, rfl⟩ (by
    rintro q r ρ ⟨hh, f9, f10, f11, f12, rfl⟩
    obtain ⟨o, w2, rfl, ho⟩ := hh q (List.mem_cons_self ..)
    obtain ⟨g9, g10, f⟩ := words_turn (e0 := e0) (e1 := e1) (e2 := (some (R.own (p1)))) (e3 := e3) (e4 := e4) (e5 := (some (R.dat (.list A)))) (e8 := e8) (e9 := f9) (e10 := f10) hd ho
    exact ⟨_, _, rfl, .inl f, fun y hy => hh y (List.mem_cons_of_mem _ hy), _, _, _, _, rfl⟩)
  refine ⟨p1, f9, f10, f11, f12, o1, ?_⟩
  unfold fb4_law
  simp [c1, ix, iy, iz, hT.symm, lT, f1, lim]
end
theorem bk_bad {d : PyData} (h : Bad d) : Bk d "book" := ⟨h.r, .inr (.inr ⟨rfl, needplain_b h.l h.b⟩)⟩
theorem bk_plain {L : List Sp} (h : ∀ s ∈ L, s.Ok) (h1 : 1 ≤ L.length) (h2 : L.length ≤ 40) (hp : plB L = false) : Bk (.tuple (L.map Sp.d)) "plain" := ⟨rp_bk h h2, .inr (.inl ⟨rfl, needplain_l h h1 h2 hp⟩)⟩
theorem bk_told {L : List Sp} (h : Sm L) : Bk (.tuple (L.map Sp.d)) "told" := ⟨rp_bk h.ok (by have := h.l; omega), .inl ⟨rfl, L, rfl, h⟩⟩
theorem law_turn {ns : List Int} (k : Nat) (es : Rho) (h : ∃ e2 e3 e4 e5 e6 e7 e8 e9 e10 e11 e12, es = [e2, e3, e4, e5, e6, e7, e8, e9, e10, e11, e12, none]) : ∃ e1 es', fb5_law ((some (R.dat (.list (ns.map .int)))) :: (some (R.dat (.int k))) :: es) = some (.nx ((some (R.dat (.list (ns.map .int)))) :: e1 :: es')) ∧ ∃ e2 e3 e4 e5 e6 e7 e8 e9 e10 e11 e12, es' = [e2, e3, e4, e5, e6, e7, e8, e9, e10, e11, e12, none] := by
  obtain ⟨e2, e3, e4, e5, e6, e7, e8, e9, e10, e11, e12, rfl⟩ := h
  obtain ⟨cell, c1⟩ := cell_is ns (k := (k : Int)) (by omega)
  obtain ⟨p, c2, o2⟩ := pot_is cell
  obtain ⟨L, p1, c3, hL, l1, l6, o3⟩ := plain_is o2 (most := 6) (far := 20) (by omega) (by omega) (by omega)
  have sm : Sm L := ⟨⟨hL, l1, by omega⟩, by omega⟩
  obtain ⟨v, p2, c4, v0, v1, o4⟩ := take_is o3 (b := 5) (by omega) (by omega)
  obtain ⟨M, p3, c5, hM, o5⟩ := mixedA_is Sp.d o4 (L := L.drop 1 ++ [(⟨1, 7, v⟩ : Sp)]) (by rw [List.length_append, List.length_drop]; simp only [List.length_cons, List.length_nil]; omega)
  have lM := hM.length_eq
  rw [List.length_append, List.length_drop] at lM
  simp only [List.length_cons, List.length_nil] at lM
  have hlate : ∀ s ∈ M, s.Ok := fun s hs => by
    rcases List.mem_append.mp (hM.mem_iff.mp hs) with hs | hs
    · exact (hL s (List.mem_of_mem_drop hs)).1
    · rw [List.mem_singleton] at hs; subst hs; exact ⟨by show (0:Int) ≤ 1; decide, by show (1:Int) < 7; decide, by show (7:Int) ≤ 999; decide, v0, by show v ≤ 4; omega⟩
  have hpl : plB M = false := by
    rw [← Bool.not_eq_true]
    unfold plB
    rw [List.all_eq_true]
    intro hh
    have := hh _ (hM.mem_iff.mpr (List.mem_append_right _ (List.mem_singleton.mpr rfl)))
    simp at this
  have ct : cutD (L.map Sp.d) (some 1) none = (L.drop 1).map Sp.d := by rw [cut_from _ (by omega), List.map_drop]; rfl
  have pl : dPlus (.list ((L.drop 1).map Sp.d)) (.list [.tuple [.int 1, .int 7, .int v]]) = some (.own (.list ((L.drop 1 ++ [(⟨1, 7, v⟩ : Sp)]).map Sp.d))) := by rw [dPlus_lc (by rw [List.length_map, List.length_drop]; simp only [List.length_cons, List.length_nil]; omega), List.map_append]; rfl
  have bt := bk_told sm
  have bl := bk_plain hlate (by omega) (by omega) hpl
  have g1 := lcL_mp (g := gnM 13) (vs := [13]) (c := yesT) (f := ce1_law) (ρ := [(some (R.dat (.list (ns.map .int)))), (some (R.dat (.int k))), (some (R.own (p3))), (some (R.dat (.tuple (L.map Sp.d)))), (some (R.own (.list (M.map Sp.d)))), e5, e6, e7, e8, e9, e10, e11, e12, none]) (fun d : PyData => d) (fun d => .tuple [d, .str "book"]) nb15 (by decide) (by
    intro s hs
    simp [ev, ce1_law])
  rw [List.map_id'] at g1
  obtain ⟨N, hN⟩ : ∃ N, N = nb15.map fun d => PyData.tuple [d, .str "book"] := ⟨_, rfl⟩
  have lN : N.length = 15 := by rw [hN, List.length_map]; rfl
  rw [← hN] at g1
  obtain ⟨T3, hT3⟩ : ∃ T, T = [PyData.tuple [.tuple (L.map Sp.d), .str "told"], .tuple [.tuple (M.map Sp.d), .str "plain"]] := ⟨_, rfl⟩
  have lT3 : T3.length = 2 := by rw [hT3]; rfl
  have pT : dPlus (.list T3) (.list N) = some (.own (.list (T3 ++ N))) := dPlus_lc (by omega)
  have hT : ∀ x ∈ T3 ++ N, Pr x := by
    intro x hx
    rcases List.mem_append.mp hx with hx | hx
    · rw [hT3] at hx
      simp only [List.mem_cons, List.not_mem_nil, or_false] at hx
      rcases hx with rfl | rfl
      · exact ⟨_, _, rfl, bt⟩
      · exact ⟨_, _, rfl, bl⟩
    · rw [hN] at hx
      obtain ⟨d, hd, rfl⟩ := List.mem_map.mp hx
      exact ⟨d, _, rfl, bk_bad (nb_bad d hd)⟩
  have lA : (T3 ++ N).length = 17 := by rw [List.length_append, lT3, lN]
  generalize hA : T3 ++ N = A at pT hT lA
  have nb := nobooks_is
  obtain ⟨B15, hB⟩ : ∃ B, B = nb15 := ⟨_, rfl⟩
  rw [← hB] at nb g1
  generalize L.map Sp.d = LD at *
  generalize M.map Sp.d = MD at *
  generalize (L.drop 1).map Sp.d = L1 at *
  generalize (L.drop 1 ++ [(⟨1, 7, v⟩ : Sp)]).map Sp.d = L2' at *
  obtain ⟨ρ2, s2, _, p4, o6, x6, x7, x8, x9, x10, rfl⟩ := forL_inv (g := gtM (gsC (gnM 6) (gsC (gnM 7) gs0))) (body := fb2_law) (fun xs ρ => (∀ x ∈ xs, Pr x) ∧ ∃ p', Pot p' ∧ ∃ x6 x7 x8 x9 x10, ρ = [(some (R.dat (.list (ns.map .int)))), (some (R.dat (.int k))), (some (R.own (p'))), (some (R.dat (.tuple LD))), (some (R.own (.list MD))), (some (R.dat (.list A))), x6, x7, x8, x9, x10, e11, e12, none]) A [(some (R.dat (.list (ns.map .int)))), (some (R.dat (.int k))), (some (R.own (p3))), (some (R.dat (.tuple LD))), (some (R.own (.list MD))), (some (R.dat (.list A))), e6, e7, e8, e9, e10, e11, e12, none] ⟨hT, p3, o5, _, _, _, _, _, rfl⟩ (by
    rintro x r ρ ⟨hh, p', o', x6, x7, x8, x9, x10, rfl⟩
    obtain ⟨d, w, rfl, hd⟩ := hh x (List.mem_cons_self ..)
    obtain ⟨p2, g8, g9, g10, o2, f⟩ := times_turn (e0 := (some (R.dat (.list (ns.map .int))))) (e1 := (some (R.dat (.int k)))) (e3 := (some (R.dat (.tuple LD)))) (e4 := (some (R.own (.list MD)))) (e5 := (some (R.dat (.list A)))) (e8 := x8) (e9 := x9) (e10 := x10) (e11 := e11) (e12 := e12) o' hd
    exact ⟨_, _, rfl, .inl f, fun y hy => hh y (List.mem_cons_of_mem _ hy), p2, o2, _, _, _, _, _, rfl⟩)
  obtain ⟨ρ3, s3, _, p5, o7, y6, y7, y9, y10, y11, y12, rfl⟩ := forL_inv (g := gtM (gsC (gnM 6) (gsC (gnM 7) gs0))) (body := fb4_law) (fun xs ρ => (∀ x ∈ xs, Pr x) ∧ ∃ p', Pot p' ∧ ∃ x6 x7 x9 x10 x11 x12, ρ = [(some (R.dat (.list (ns.map .int)))), (some (R.dat (.int k))), (some (R.own (p'))), (some (R.dat (.tuple LD))), (some (R.own (.list MD))), (some (R.dat (.list A))), x6, x7, x8, x9, x10, x11, x12, none]) A [(some (R.dat (.list (ns.map .int)))), (some (R.dat (.int k))), (some (R.own (p4))), (some (R.dat (.tuple LD))), (some (R.own (.list MD))), (some (R.dat (.list A))), x6, x7, x8, x9, x10, e11, e12, none] ⟨hT, p4, o6, _, _, _, _, _, _, rfl⟩ (by
    rintro x r ρ ⟨hh, p', o', x6, x7, x9, x10, x11, x12, rfl⟩
    obtain ⟨d, w, rfl, hd⟩ := hh x (List.mem_cons_self ..)
    obtain ⟨p2, g9, g10, g11, g12, o2, f⟩ := others_turn (e0 := (some (R.dat (.list (ns.map .int))))) (e1 := (some (R.dat (.int k)))) (e3 := (some (R.dat (.tuple LD)))) (e4 := (some (R.own (.list MD)))) (e8 := x8) (e9 := x9) (e10 := x10) (e11 := x11) (e12 := x12) o' hT (by omega) (by omega) hd
    exact ⟨_, _, rfl, .inl f, fun y hy => hh y (List.mem_cons_of_mem _ hy), p2, o2, _, _, _, _, _, _, rfl⟩)
  clear hB hA hT hN
  refine ⟨(some (R.dat (.int k))), [(some (R.own (p5))), (some (R.dat (.tuple LD))), (some (R.own (.list MD))), (some (R.dat (.list A))), y6, y7, x8, y9, y10, y11, y12, none], ?_, _, _, _, _, _, _, _, _, _, _, _, rfl⟩
  unfold fb5_law
  simp [c1, c2, c3, c4, c5, ct, pl, hT3.symm, lT3, nb, g1, pT, s2, s3, lim, -dPlus_l, -dPlus_t]
theorem law_true : ∀ ns : List Int, ns.length ≤ 63 → ∃ os, sem_law [.dat (.list (ns.map .int))] = some (.ok (.dat (.bool true)) os) := by
  intro ns hn
  rw [run_law]
  unfold m_law
  obtain ⟨m, hm⟩ := turns_is (ns := ns) (c := 3) (by omega)
  obtain ⟨e1, es, e, _⟩ := loopK (body := fb5_law) (ns := ns) _ (fun k es h => law_turn k es h) m none [none, none, none, none, none, none, none, none, none, none, none, none] ⟨_, _, _, _, _, _, _, _, _, _, _, rfl⟩
  refine ⟨outs 1 pr_law ((some (R.dat (.list (ns.map .int)))) :: e1 :: es), ?_⟩
  simp [hm, e]
end Lw
namespace Lw
open PySem L2 DL
abbrev N__law_pot : List Str := ["_law_cell", "_law_number", "_law_j", "_law_more"]
theorem sc__law_pot : FnScope N__law_pot ["_law_cell"] (defScope st__law_pot) := ⟨rfl, rfl, rfl, by decide +kernel, rfl, by decide +kernel, by decide +kernel⟩
abbrev N__law_take : List Str := ["_law_pot_here", "_law_far", "_law_found"]
theorem sc__law_take : FnScope N__law_take ["_law_pot_here", "_law_far"] (defScope st__law_take) := ⟨rfl, rfl, rfl, by decide +kernel, rfl, by decide +kernel, by decide +kernel⟩
abbrev N__law_plain : List Str := ["_law_pot_here", "_law_most", "_law_far", "_law_found", "_law_turn", "_law_until"]
theorem sc__law_plain : FnScope N__law_plain ["_law_pot_here", "_law_most", "_law_far"] (defScope st__law_plain) := ⟨rfl, rfl, rfl, by decide +kernel, rfl, by decide +kernel, by decide +kernel⟩
abbrev N__law_mixed : List Str := ["_law_pot_here", "_law_some", "_law_left", "_law_one"]
theorem sc__law_mixed : FnScope N__law_mixed ["_law_pot_here", "_law_some"] (defScope st__law_mixed) := ⟨rfl, rfl, rfl, by decide +kernel, rfl, by decide +kernel, by decide +kernel⟩
abbrev N__law_cell_at : List Str := ["_law_script", "_law_k"]
theorem sc__law_cell_at : FnScope N__law_cell_at ["_law_script", "_law_k"] (defScope st__law_cell_at) := ⟨rfl, rfl, rfl, by decide +kernel, rfl, by decide +kernel, by decide +kernel⟩
abbrev N_is_whole : List Str := ["thing"]
theorem sc_is_whole : FnScope N_is_whole ["thing"] (defScope st_is_whole) := ⟨rfl, rfl, rfl, by decide +kernel, rfl, by decide +kernel, by decide +kernel⟩
abbrev N_is_from_to : List Str := ["thing", "low", "high"]
theorem sc_is_from_to : FnScope N_is_from_to ["thing", "low", "high"] (defScope st_is_from_to) := ⟨rfl, rfl, rfl, by decide +kernel, rfl, by decide +kernel, by decide +kernel⟩
abbrev N_is_lasting : List Str := ["thing", "most"]
theorem sc_is_lasting : FnScope N_is_lasting ["thing", "most"] (defScope st_is_lasting) := ⟨rfl, rfl, rfl, by decide +kernel, rfl, by decide +kernel, by decide +kernel⟩
abbrev N_is_span : List Str := ["thing"]
theorem sc_is_span : FnScope N_is_span ["thing"] (defScope st_is_span) := ⟨rfl, rfl, rfl, by decide +kernel, rfl, by decide +kernel, by decide +kernel⟩
abbrev N_is_book : List Str := ["thing", "one"]
theorem sc_is_book : FnScope N_is_book ["thing"] (defScope st_is_book) := ⟨rfl, rfl, rfl, by decide +kernel, rfl, by decide +kernel, by decide +kernel⟩
abbrev N_need_book : List Str := ["thing"]
theorem sc_need_book : FnScope N_need_book ["thing"] (defScope st_need_book) := ⟨rfl, rfl, rfl, by decide +kernel, rfl, by decide +kernel, by decide +kernel⟩
abbrev N_need_plain : List Str := ["thing", "begin", "until", "end"]
theorem sc_need_plain : FnScope N_need_plain ["thing"] (defScope st_need_plain) := ⟨rfl, rfl, rfl, by decide +kernel, rfl, by decide +kernel, by decide +kernel⟩
abbrev N_is_true_of : List Str := ["span", "thing"]
theorem sc_is_true_of : FnScope N_is_true_of ["span", "thing"] (defScope st_is_true_of) := ⟨rfl, rfl, rfl, by decide +kernel, rfl, by decide +kernel, by decide +kernel⟩
abbrev N_is_truth_by : List Str := ["book", "thing", "span", "one"]
theorem sc_is_truth_by : FnScope N_is_truth_by ["book", "thing"] (defScope st_is_truth_by) := ⟨rfl, rfl, rfl, by decide +kernel, rfl, by decide +kernel, by decide +kernel⟩
abbrev N_is_truth : List Str := ["book", "thing"]
theorem sc_is_truth : FnScope N_is_truth ["book", "thing"] (defScope st_is_truth) := ⟨rfl, rfl, rfl, by decide +kernel, rfl, by decide +kernel, by decide +kernel⟩
abbrev N_soonest_by : List Str := ["book", "begin", "until", "end"]
theorem sc_soonest_by : FnScope N_soonest_by ["book"] (defScope st_soonest_by) := ⟨rfl, rfl, rfl, by decide +kernel, rfl, by decide +kernel, by decide +kernel⟩
abbrev N_soonest : List Str := ["book"]
theorem sc_soonest : FnScope N_soonest ["book"] (defScope st_soonest) := ⟨rfl, rfl, rfl, by decide +kernel, rfl, by decide +kernel, by decide +kernel⟩
abbrev N_latest_by : List Str := ["book", "begin", "until", "end"]
theorem sc_latest_by : FnScope N_latest_by ["book"] (defScope st_latest_by) := ⟨rfl, rfl, rfl, by decide +kernel, rfl, by decide +kernel, by decide +kernel⟩
abbrev N_latest : List Str := ["book"]
theorem sc_latest : FnScope N_latest ["book"] (defScope st_latest) := ⟨rfl, rfl, rfl, by decide +kernel, rfl, by decide +kernel, by decide +kernel⟩
abbrev N__law_refusal : List Str := ["_law_e", "_law_some", "_law_words_here"]
theorem sc__law_refusal : FnScope N__law_refusal ["_law_e"] (defScope st__law_refusal) := ⟨rfl, rfl, rfl, by decide +kernel, rfl, by decide +kernel, by decide +kernel⟩
abbrev N__law_said : List Str := ["_law_call", "_law_e"]
theorem sc__law_said : FnScope N__law_said ["_law_call"] (defScope st__law_said) := ⟨rfl, rfl, rfl, by decide +kernel, rfl, by decide +kernel, by decide +kernel⟩
abbrev N__law_alone : List Str := ["_law_one", "_law_thing", "_law_calls", "_law_call"]
theorem sc__law_alone : FnScope N__law_alone ["_law_one", "_law_thing"] (defScope st__law_alone) := ⟨rfl, rfl, rfl, by decide +kernel, rfl, by decide +kernel, by decide +kernel⟩
abbrev N__law_odd : List Str := ["_law_pot_here", "_law_some"]
theorem sc__law_odd : FnScope N__law_odd ["_law_pot_here"] (defScope st__law_odd) := ⟨rfl, rfl, rfl, by decide +kernel, rfl, by decide +kernel, by decide +kernel⟩
abbrev N__law_no_books : List Str := ["_law_some"]
theorem sc__law_no_books : FnScope N__law_no_books [] (defScope st__law_no_books) := ⟨rfl, rfl, rfl, by decide +kernel, rfl, by decide +kernel, by decide +kernel⟩
abbrev N_is_less : List Str := ["one", "other"]
theorem sc_is_less : FnScope N_is_less ["one", "other"] (defScope st_is_less) := ⟨rfl, rfl, rfl, by decide +kernel, rfl, by decide +kernel, by decide +kernel⟩
abbrev N_common : List Str := ["one", "other"]
theorem sc_common : FnScope N_common ["one", "other"] (defScope st_common) := ⟨rfl, rfl, rfl, by decide +kernel, rfl, by decide +kernel, by decide +kernel⟩
abbrev N_put : List Str := ["top", "bottom", "divisor"]
theorem sc_put : FnScope N_put ["top", "bottom"] (defScope st_put) := ⟨rfl, rfl, rfl, by decide +kernel, rfl, by decide +kernel, by decide +kernel⟩
abbrev N_lasting : List Str := ["truth", "time", "begin", "until", "end"]
theorem sc_lasting : FnScope N_lasting ["truth", "time"] (defScope st_lasting) := ⟨rfl, rfl, rfl, by decide +kernel, rfl, by decide +kernel, by decide +kernel⟩
abbrev N_first_less : List Str := ["one", "other", "time", "begin", "until", "end"]
theorem sc_first_less : FnScope N_first_less ["one", "other"] (defScope st_first_less) := ⟨rfl, rfl, rfl, by decide +kernel, rfl, by decide +kernel, by decide +kernel⟩
abbrev N_may_outlast : List Str := ["one", "other", "time", "first", "second"]
theorem sc_may_outlast : FnScope N_may_outlast ["one", "other"] (defScope st_may_outlast) := ⟨rfl, rfl, rfl, by decide +kernel, rfl, by decide +kernel, by decide +kernel⟩
abbrev N_must_outlast : List Str := ["one", "other", "time", "first", "second"]
theorem sc_must_outlast : FnScope N_must_outlast ["one", "other"] (defScope st_must_outlast) := ⟨rfl, rfl, rfl, by decide +kernel, rfl, by decide +kernel, by decide +kernel⟩
abbrev N_are_truths : List Str := ["one", "other", "thing"]
theorem sc_are_truths : FnScope N_are_truths ["one", "other", "thing"] (defScope st_are_truths) := ⟨rfl, rfl, rfl, by decide +kernel, rfl, by decide +kernel, by decide +kernel⟩
abbrev N_shows_may : List Str := ["one", "other", "thing"]
theorem sc_shows_may : FnScope N_shows_may ["one", "other", "thing"] (defScope st_shows_may) := ⟨rfl, rfl, rfl, by decide +kernel, rfl, by decide +kernel, by decide +kernel⟩
abbrev N_shows_never : List Str := ["one", "other", "thing"]
theorem sc_shows_never : FnScope N_shows_never ["one", "other", "thing"] (defScope st_shows_never) := ⟨rfl, rfl, rfl, by decide +kernel, rfl, by decide +kernel, by decide +kernel⟩
abbrev N_shows_not : List Str := ["one", "other", "thing"]
theorem sc_shows_not : FnScope N_shows_not ["one", "other", "thing"] (defScope st_shows_not) := ⟨rfl, rfl, rfl, by decide +kernel, rfl, by decide +kernel, by decide +kernel⟩
abbrev N__law_words : List Str := ["_law_one", "_law_other", "_law_calls", "_law_call"]
theorem sc__law_words : FnScope N__law_words ["_law_one", "_law_other"] (defScope st__law_words) := ⟨rfl, rfl, rfl, by decide +kernel, rfl, by decide +kernel, by decide +kernel⟩
abbrev N__law_whole : List Str := ["_law_thing"]
theorem sc__law_whole : FnScope N__law_whole ["_law_thing"] (defScope st__law_whole) := ⟨rfl, rfl, rfl, by decide +kernel, rfl, by decide +kernel, by decide +kernel⟩
abbrev N__law_within : List Str := ["_law_thing", "_law_low", "_law_high"]
theorem sc__law_within : FnScope N__law_within ["_law_thing", "_law_low", "_law_high"] (defScope st__law_within) := ⟨rfl, rfl, rfl, by decide +kernel, rfl, by decide +kernel, by decide +kernel⟩
abbrev N_need_time : List Str := ["thing"]
theorem sc_need_time : FnScope N_need_time ["thing"] (defScope st_need_time) := ⟨rfl, rfl, rfl, by decide +kernel, rfl, by decide +kernel, by decide +kernel⟩
abbrev N_bounds : List Str := ["book", "time"]
theorem sc_bounds : FnScope N_bounds ["book", "time"] (defScope st_bounds) := ⟨rfl, rfl, rfl, by decide +kernel, rfl, by decide +kernel, by decide +kernel⟩
abbrev N_law : List Str := ["_law_script", "_law_k", "_law_pot_here", "_law_book", "_law_late", "_law_pairs", "_law_one", "_law_word", "_law_time", "_law_ought", "_law_kept", "_law_other", "_law_later", "_law_bad"]
theorem sc_law : FnScope N_law ["_law_script"] (defScope st_law) := ⟨rfl, rfl, rfl, by decide +kernel, rfl, by decide +kernel, by decide +kernel⟩
structure Gv (mg : Str → Option Value) (T : Tb) : Prop where
  b_ValueError : mg "ValueError" = none
  b_abs : mg "abs" = none
  b_all : mg "all" = none
  b_any : mg "any" = none
  b_bool : mg "bool" = none
  b_int : mg "int" = none
  b_isinstance : mg "isinstance" = none
  b_len : mg "len" = none
  b_list : mg "list" = none
  b_max : mg "max" = none
  b_min : mg "min" = none
  b_range : mg "range" = none
  b_repr : mg "repr" = none
  b_sorted : mg "sorted" = none
  b_tuple : mg "tuple" = none
  b_zip : mg "zip" = none
  KINDS : ∃ u v, mg "KINDS" = some u ∧ L2.RelV v u ∧ ∀ H F, DF T.K H F v k_KINDS
  LATEST : ∃ u v, mg "LATEST" = some u ∧ L2.RelV v u ∧ ∀ H F, DF T.K H F v k_LATEST
  MOST_AGE : ∃ u v, mg "MOST_AGE" = some u ∧ L2.RelV v u ∧ ∀ H F, DF T.K H F v k_MOST_AGE
  MOST_SPANS : ∃ u v, mg "MOST_SPANS" = some u ∧ L2.RelV v u ∧ ∀ H F, DF T.K H F v k_MOST_SPANS
  MOST_TIME : ∃ u v, mg "MOST_TIME" = some u ∧ L2.RelV v u ∧ ∀ H F, DF T.K H F v k_MOST_TIME
  x_SpanError : mg "SpanError" = some (.ref (T.ca 0))
  x_NoBook : ExE mg T "NoBook" 1
  x_NoTime : ExE mg T "NoTime" 2
  x_NoShare : mg "NoShare" = some (.ref (T.ca 3))
  x_NoParts : mg "NoParts" = some (.ref (T.ca 4))
  x_NoPlain : ExE mg T "NoPlain" 5
  x_NoKind : mg "NoKind" = some (.ref (T.ca 6))
  x_NoMarks : mg "NoMarks" = some (.ref (T.ca 7))
  x_NoWord : mg "NoWord" = some (.ref (T.ca 8))
  x_NoFull : mg "NoFull" = some (.ref (T.ca 9))
  x_NoNumber : mg "NoNumber" = some (.ref (T.ca 10))
  x_NoBand : mg "NoBand" = some (.ref (T.ca 11))
  x_NoName : mg "NoName" = some (.ref (T.ca 12))
  x_NoDay : mg "NoDay" = some (.ref (T.ca 13))
  x_NoDeed : mg "NoDeed" = some (.ref (T.ca 14))
  x_NoFraction : mg "NoFraction" = some (.ref (T.ca 15))
  x_NoText : mg "NoText" = some (.ref (T.ca 16))
  x_NoLine : mg "NoLine" = some (.ref (T.ca 17))
  x_TooMany : mg "TooMany" = some (.ref (T.ca 18))
  m_SpanError : ∀ c b, mt_SpanError c = some b → PySem.W.exmOne T.K (.ref (T.ca c)) (.ref (T.ca 0)) = some b
  i_NoBook : IsTb T (.ref (T.ca 1)) is_NoBook
  i_NoTime : IsTb T (.ref (T.ca 2)) is_NoTime
  i_NoShare : IsTb T (.ref (T.ca 3)) is_NoShare
  i_NoParts : IsTb T (.ref (T.ca 4)) is_NoParts
  i_NoPlain : IsTb T (.ref (T.ca 5)) is_NoPlain
  i_NoKind : IsTb T (.ref (T.ca 6)) is_NoKind
  i_NoMarks : IsTb T (.ref (T.ca 7)) is_NoMarks
  i_NoWord : IsTb T (.ref (T.ca 8)) is_NoWord
  i_NoFull : IsTb T (.ref (T.ca 9)) is_NoFull
  i_NoNumber : IsTb T (.ref (T.ca 10)) is_NoNumber
  i_NoBand : IsTb T (.ref (T.ca 11)) is_NoBand
  i_NoName : IsTb T (.ref (T.ca 12)) is_NoName
  i_NoDay : IsTb T (.ref (T.ca 13)) is_NoDay
  i_NoDeed : IsTb T (.ref (T.ca 14)) is_NoDeed
  i_NoFraction : IsTb T (.ref (T.ca 15)) is_NoFraction
  i_NoText : IsTb T (.ref (T.ca 16)) is_NoText
  i_NoLine : IsTb T (.ref (T.ca 17)) is_NoLine
  i_TooMany : IsTb T (.ref (T.ca 18)) is_TooMany
  i_ValueError : IsTb T (.type "ValueError") is_ValueError
theorem b__law_pot {X : Cx} {T : Tb} {W : WX} {H : Hp} (a : At X N__law_pot (defScope st__law_pot)) (hk : X.env.scope.kind = .function) (fn : ∀ x, X.fn x = true) (c : Cxt X T W 0) (g : Gv X.mg T) : SB X T W ⟨H, 1, pr__law_pot⟩ (defBody st__law_pot) m__law_pot := by
  unfold m__law_pot fb1__law_pot
  exact (ss_cons (ss_if (t_ge c (se_n a 0 (by decide +kernel)) (e_pow c se_int se_int)) (ss_one (ss_ret (se_lst (sd_cons (e_sub c (se_n a 0 (by decide +kernel)) (e_pow c se_int se_int)) sa_nil)))) ss_nil)
    (ss_cons (ss_a a c.nd fn 1 (by decide +kernel) rfl se_int)
    (ss_cons (ss_for c.po c.calm (e_rng1 a (by decide +kernel) g.b_range se_int) (sg_n a c.nd (.inl (fn _)) 2 (by decide +kernel) rfl) (ss_cons (ss_a a c.nd fn 3 (by decide +kernel) rfl (e_mod c (e_mul c (e_add c (e_add c (e_mod c (se_n a 0 (by decide +kernel)) se_int) (e_mul c se_int (se_n a 2 (by decide +kernel)))) se_int) se_int) se_int))
    (ss_cons (ss_a a c.nd fn 3 (by decide +kernel) rfl (e_mod c (e_add c (e_add c (e_mul c (se_n a 3 (by decide +kernel)) (se_n a 3 (by decide +kernel))) (e_mul c se_int (se_n a 2 (by decide +kernel)))) se_int) se_int))
    (ss_one (ss_a a c.nd fn 1 (by decide +kernel) rfl (e_add c (e_mul c (se_n a 1 (by decide +kernel)) se_int) (se_n a 3 (by decide +kernel))))))))
    (ss_one (ss_ret (se_lst (sd_cons (se_n a 1 (by decide +kernel)) sa_nil)))))))
theorem b__law_take {X : Cx} {T : Tb} {W : WX} {H : Hp} (a : At X N__law_take (defScope st__law_take)) (hk : X.env.scope.kind = .function) (fn : ∀ x, X.fn x = true) (c : Cxt X T W 0) (g : Gv X.mg T) : SB X T W ⟨H, 2, pr__law_take⟩ (defBody st__law_take) m__law_take := by
  unfold m__law_take
  exact (ss_cons (ss_a a c.nd fn 2 (by decide +kernel) rfl (e_mod c (e_ixA c (se_n a 0 (by decide +kernel)) se_int) (se_n a 1 (by decide +kernel))))
    (ss_cons (ss_set (e_fd c (e_ixA c (se_n a 0 (by decide +kernel)) se_int) (se_n a 1 (by decide +kernel))) (pg_sub (pe_n a 0 (by decide +kernel)) se_int set_list))
    (ss_one (ss_ret (se_n a 2 (by decide +kernel))))))
theorem b__law_plain {X : Cx} {T : Tb} {W : WX} {H : Hp} (a : At X N__law_plain (defScope st__law_plain)) (hk : X.env.scope.kind = .function) (fn : ∀ x, X.fn x = true) (c : Cxt X T W 1) (g : Gv X.mg T) (h__law_take : FnE X.prog X.w X.mg X.base T "_law_take" 1 2 sem__law_take) : SB X T W ⟨H, 3, pr__law_plain⟩ (defBody st__law_plain) m__law_plain := by
  unfold m__law_plain fb1__law_plain
  exact (ss_cons (ss_a a c.nd fn 3 (by decide +kernel) rfl (se_lst sa_nil))
    (ss_cons (ss_for c.po c.calm (e_rng1 a (by decide +kernel) g.b_range (e_add c se_int (se_f a (by decide +kernel) c h__law_take runD_len (by decide) (sa_cons (se_n a 0 (by decide +kernel)) (sa_cons (se_n a 1 (by decide +kernel)) sa_nil))))) (sg_n a c.nd (.inl (fn _)) 4 (by decide +kernel) rfl) (ss_cons (ss_a a c.nd fn 5 (by decide +kernel) rfl (e_ixA c (se_lst (sd_cons (e_add c se_int (se_f a (by decide +kernel) c h__law_take runD_len (by decide) (sa_cons (se_n a 0 (by decide +kernel)) (sa_cons (se_n a 2 (by decide +kernel)) sa_nil)))) (sd_cons (e_add c se_int (se_f a (by decide +kernel) c h__law_take runD_len (by decide) (sa_cons (se_n a 0 (by decide +kernel)) (sa_cons se_int sa_nil)))) (sd_cons se_int sa_nil)))) (e_min2 a c (by decide +kernel) g.b_min (sa_cons se_int (sa_cons (e_fd c (se_f a (by decide +kernel) c h__law_take runD_len (by decide) (sa_cons (se_n a 0 (by decide +kernel)) (sa_cons se_int sa_nil))) se_int) sa_nil)))))
    (ss_one (ss_app (pe_bm PySem.F.plainAttrs_list PySem.F.slot_list_append PySem.F.type_list_append mt_append (pe_n a 3 (by decide +kernel)) (pa_cons (se_tup (sd_cons se_int (sd_cons (se_n a 5 (by decide +kernel)) (sd_cons (e_ixA c (se_lst (sd_cons se_int (sd_cons (e_add c se_int (se_f a (by decide +kernel) c h__law_take runD_len (by decide) (sa_cons (se_n a 0 (by decide +kernel)) (sa_cons se_int sa_nil)))) sa_nil))) (e_int a c (by decide +kernel) g.b_int (sa_cons (e_gt c (se_f a (by decide +kernel) c h__law_take runD_len (by decide) (sa_cons (se_n a 0 (by decide +kernel)) (sa_cons se_int sa_nil))) se_int) sa_nil))) sa_nil)))) pa_nil))))))
    (ss_one (ss_ret (e_tuple a c (by decide +kernel) g.b_tuple (sa_cons (se_n a 3 (by decide +kernel)) sa_nil))))))
theorem b__law_mixed {X : Cx} {T : Tb} {W : WX} {H : Hp} (a : At X N__law_mixed (defScope st__law_mixed)) (hk : X.env.scope.kind = .function) (fn : ∀ x, X.fn x = true) (c : Cxt X T W 1) (g : Gv X.mg T) (h__law_take : FnE X.prog X.w X.mg X.base T "_law_take" 1 2 sem__law_take) : SB X T W ⟨H, 2, pr__law_mixed⟩ (defBody st__law_mixed) m__law_mixed := by
  unfold m__law_mixed ce1__law_mixed
  exact (ss_cons (ss_a a c.nd fn 2 (by decide +kernel) rfl (e_list a c (by decide +kernel) g.b_list (sa_cons (se_n a 1 (by decide +kernel)) sa_nil)))
    (ss_one (ss_ret (se_lc (own := [("_law_one", 3)]) c.calm c.nd (si_seq c.hK (se_n a 1 (by decide +kernel))) (a.blkOk (by decide +kernel)) (fun s1 H1 C1 cl1 fp1 => (sg_n (a.blk s1 H1 _ cl1 C1 fp1) (c.blk s1 H1 _ _ fp1).nd (.inr (lclB_ok (by decide +kernel))) 3 (by decide +kernel) rfl)) (fun s1 H1 C1 cl1 fp1 => sts_nil) (fun s1 H1 C1 cl1 fp1 => (se_pop (pe_bm PySem.F.plainAttrs_list PySem.F.slot_list_pop PySem.F.type_list_pop mt_popAt (pe_n (a.blk s1 H1 _ cl1 C1 fp1) 2 (by decide +kernel)) (pa_cons (se_f (a.blk s1 H1 _ cl1 C1 fp1) (by decide +kernel) (c.blk s1 H1 _ _ fp1) h__law_take runD_len (by decide) (sa_cons (se_n (a.blk s1 H1 _ cl1 C1 fp1) 0 (by decide +kernel)) (sa_cons (e_len (a.blk s1 H1 _ cl1 C1 fp1) (c.blk s1 H1 _ _ fp1) (by decide +kernel) g.b_len (sa_cons (se_n (a.blk s1 H1 _ cl1 C1 fp1) 2 (by decide +kernel)) sa_nil)) sa_nil))) pa_nil))))))))
theorem b__law_cell_at {X : Cx} {T : Tb} {W : WX} {H : Hp} (a : At X N__law_cell_at (defScope st__law_cell_at)) (hk : X.env.scope.kind = .function) (fn : ∀ x, X.fn x = true) (c : Cxt X T W 0) (g : Gv X.mg T) : SB X T W ⟨H, 2, pr__law_cell_at⟩ (defBody st__law_cell_at) m__law_cell_at := by
  unfold m__law_cell_at
  exact (ss_cons (ss_if (t_lt c (se_n a 1 (by decide +kernel)) (e_len a c (by decide +kernel) g.b_len (sa_cons (se_n a 0 (by decide +kernel)) sa_nil))) (ss_one (ss_ret (e_ixA c (se_n a 0 (by decide +kernel)) (se_n a 1 (by decide +kernel))))) ss_nil)
    (ss_one (ss_ret se_int)))
theorem b_is_whole {X : Cx} {T : Tb} {W : WX} {H : Hp} (a : At X N_is_whole (defScope st_is_whole)) (hk : X.env.scope.kind = .function) (fn : ∀ x, X.fn x = true) (c : Cxt X T W 0) (g : Gv X.mg T) : SB X T W ⟨H, 1, pr_is_whole⟩ (defBody st_is_whole) m_is_whole := by
  unfold m_is_whole
  exact (ss_one (ss_ret (se_and (se_is a c.hK (by decide +kernel) g.b_isinstance (by decide +kernel) g.b_int (by decide +kernel) (se_n a 0 (by decide +kernel))) (se_one (se_not (se_is a c.hK (by decide +kernel) g.b_isinstance (by decide +kernel) g.b_bool (by decide +kernel) (se_n a 0 (by decide +kernel))))))))
theorem b_is_from_to {X : Cx} {T : Tb} {W : WX} {H : Hp} (a : At X N_is_from_to (defScope st_is_from_to)) (hk : X.env.scope.kind = .function) (fn : ∀ x, X.fn x = true) (c : Cxt X T W 1) (g : Gv X.mg T) (h_is_whole : FnE X.prog X.w X.mg X.base T "is_whole" 1 1 sem_is_whole) : SB X T W ⟨H, 3, pr_is_from_to⟩ (defBody st_is_from_to) m_is_from_to := by
  unfold m_is_from_to
  exact (ss_one (ss_ret (se_and (se_f a (by decide +kernel) c h_is_whole runD_len (by decide) (sa_cons (se_n a 0 (by decide +kernel)) sa_nil)) (se_one (e_ch Ord.le Ord.le (se_n a 1 (by decide +kernel)) (se_n a 0 (by decide +kernel)) (se_n a 2 (by decide +kernel)))))))
theorem b_is_lasting {X : Cx} {T : Tb} {W : WX} {H : Hp} (a : At X N_is_lasting (defScope st_is_lasting)) (hk : X.env.scope.kind = .function) (fn : ∀ x, X.fn x = true) (c : Cxt X T W 2) (g : Gv X.mg T) (h_is_from_to : FnE X.prog X.w X.mg X.base T "is_from_to" 2 3 sem_is_from_to) : SB X T W ⟨H, 2, pr_is_lasting⟩ (defBody st_is_lasting) m_is_lasting := by
  unfold m_is_lasting
  exact (ss_cons (ss_if (st_w (sw_or (st_not (st_val (se_is a c.hK (by decide +kernel) g.b_isinstance (by decide +kernel) g.b_tuple (by decide +kernel) (se_n a 0 (by decide +kernel))))) (sw_or (t_ne c (e_len a c (by decide +kernel) g.b_len (sa_cons (se_n a 0 (by decide +kernel)) sa_nil)) se_int) (sw_or1 (st_not (st_val (se_f a (by decide +kernel) c h_is_from_to runD_len (by decide) (sa_cons (e_ixA c (se_n a 0 (by decide +kernel)) se_int) (sa_cons se_int (sa_cons (se_n a 1 (by decide +kernel)) sa_nil)))))))))) (ss_one (ss_ret se_bl)) ss_nil)
    (ss_one (ss_ret (se_and (se_f a (by decide +kernel) c h_is_from_to runD_len (by decide) (sa_cons (e_ixA c (se_n a 0 (by decide +kernel)) se_int) (sa_cons (e_add c (e_ixA c (se_n a 0 (by decide +kernel)) se_int) se_int) (sa_cons (se_n a 1 (by decide +kernel)) sa_nil)))) (se_one (se_f a (by decide +kernel) c h_is_from_to runD_len (by decide) (sa_cons (e_ixA c (se_n a 0 (by decide +kernel)) se_int) (sa_cons se_int (sa_cons (e_len a c (by decide +kernel) g.b_len (sa_cons (se_g (v := .non) a (by decide +kernel) g.KINDS) sa_nil)) sa_nil)))))))))
theorem b_is_span {X : Cx} {T : Tb} {W : WX} {H : Hp} (a : At X N_is_span (defScope st_is_span)) (hk : X.env.scope.kind = .function) (fn : ∀ x, X.fn x = true) (c : Cxt X T W 3) (g : Gv X.mg T) (h_is_lasting : FnE X.prog X.w X.mg X.base T "is_lasting" 3 2 sem_is_lasting) : SB X T W ⟨H, 1, pr_is_span⟩ (defBody st_is_span) m_is_span := by
  unfold m_is_span
  exact (ss_one (ss_ret (se_f a (by decide +kernel) c h_is_lasting runD_len (by decide) (sa_cons (se_n a 0 (by decide +kernel)) (sa_cons (se_g (v := .non) a (by decide +kernel) g.MOST_AGE) sa_nil)))))
theorem b_is_book {X : Cx} {T : Tb} {W : WX} {H : Hp} (a : At X N_is_book (defScope st_is_book)) (hk : X.env.scope.kind = .function) (fn : ∀ x, X.fn x = true) (c : Cxt X T W 4) (g : Gv X.mg T) (h_is_span : FnE X.prog X.w X.mg X.base T "is_span" 4 1 sem_is_span) : SB X T W ⟨H, 1, pr_is_book⟩ (defBody st_is_book) m_is_book := by
  unfold m_is_book ce1_is_book
  exact (ss_cons (ss_if (st_w (sw_or (st_not (st_val (se_is a c.hK (by decide +kernel) g.b_isinstance (by decide +kernel) g.b_tuple (by decide +kernel) (se_n a 0 (by decide +kernel))))) (sw_or1 (st_not (t_ch Ord.le Ord.le se_int (e_len a c (by decide +kernel) g.b_len (sa_cons (se_n a 0 (by decide +kernel)) sa_nil)) (se_g (v := .non) a (by decide +kernel) g.MOST_SPANS)))))) (ss_one (ss_ret se_bl)) ss_nil)
    (ss_one (ss_ret (e_all a c (by decide +kernel) g.b_all (sa_cons (se_lc (own := [("one", 1)]) c.calm c.nd (si_seq c.hK (se_n a 0 (by decide +kernel))) (a.blkOk (by decide +kernel)) (fun s1 H1 C1 cl1 fp1 => (sg_n (a.blk s1 H1 _ cl1 C1 fp1) (c.blk s1 H1 _ _ fp1).nd (.inr (lclB_ok (by decide +kernel))) 1 (by decide +kernel) rfl)) (fun s1 H1 C1 cl1 fp1 => sts_nil) (fun s1 H1 C1 cl1 fp1 => (se_f (a.blk s1 H1 _ cl1 C1 fp1) (by decide +kernel) (c.blk s1 H1 _ _ fp1) h_is_span runD_len (by decide) (sa_cons (se_n (a.blk s1 H1 _ cl1 C1 fp1) 1 (by decide +kernel)) sa_nil)))) sa_nil)))))
theorem b_need_book {X : Cx} {T : Tb} {W : WX} {H : Hp} (a : At X N_need_book (defScope st_need_book)) (hk : X.env.scope.kind = .function) (fn : ∀ x, X.fn x = true) (c : Cxt X T W 5) (g : Gv X.mg T) (h_is_book : FnE X.prog X.w X.mg X.base T "is_book" 5 1 sem_is_book) : SB X T W ⟨H, 1, pr_need_book⟩ (defBody st_need_book) m_need_book := by
  unfold m_need_book
  exact (ss_one (ss_if (st_not (st_val (se_f a (by decide +kernel) c h_is_book runD_len (by decide) (sa_cons (se_n a 0 (by decide +kernel)) sa_nil)))) (ss_one (s_raise a c g.x_NoBook (by decide +kernel))) ss_nil))
theorem b_need_plain {X : Cx} {T : Tb} {W : WX} {H : Hp} (a : At X N_need_plain (defScope st_need_plain)) (hk : X.env.scope.kind = .function) (fn : ∀ x, X.fn x = true) (c : Cxt X T W 6) (g : Gv X.mg T) (h_need_book : FnE X.prog X.w X.mg X.base T "need_book" 6 1 sem_need_book) : SB X T W ⟨H, 1, pr_need_plain⟩ (defBody st_need_plain) m_need_plain := by
  unfold m_need_plain ce1_need_plain
  exact (ss_cons (ss_expr (se_f a (by decide +kernel) c h_need_book runD_len (by decide) (sa_cons (se_n a 0 (by decide +kernel)) sa_nil)))
    (ss_one (ss_if (st_val (e_any a c (by decide +kernel) g.b_any (sa_cons (se_lc (own := [("begin", 1), ("until", 2), ("end", 3)]) c.calm c.nd (si_seq c.hK (se_n a 0 (by decide +kernel))) (a.blkOk (by decide +kernel)) (fun s1 H1 C1 cl1 fp1 => (sg_tup (c.blk s1 H1 _ _ fp1).hK (c.blk s1 H1 _ _ fp1).calm (sgs_cons (sg_n (a.blk s1 H1 _ cl1 C1 fp1) (c.blk s1 H1 _ _ fp1).nd (.inr (lclB_ok (by decide +kernel))) 1 (by decide +kernel) rfl) (sgs_cons (sg_n (a.blk s1 H1 _ cl1 C1 fp1) (c.blk s1 H1 _ _ fp1).nd (.inr (lclB_ok (by decide +kernel))) 2 (by decide +kernel) rfl) (sgs_cons (sg_n (a.blk s1 H1 _ cl1 C1 fp1) (c.blk s1 H1 _ _ fp1).nd (.inr (lclB_ok (by decide +kernel))) 3 (by decide +kernel) rfl) sgs_nil))) (gsC_len (gsC_len (gsC_len gs0_len))))) (fun s1 H1 C1 cl1 fp1 => sts_nil) (fun s1 H1 C1 cl1 fp1 => (e_gt (c.blk s1 H1 _ _ fp1) (se_n (a.blk s1 H1 _ cl1 C1 fp1) 1 (by decide +kernel)) se_int))) sa_nil))) (ss_one (s_raise a c g.x_NoPlain (by decide +kernel))) ss_nil)))
theorem b_is_true_of {X : Cx} {T : Tb} {W : WX} {H : Hp} (a : At X N_is_true_of (defScope st_is_true_of)) (hk : X.env.scope.kind = .function) (fn : ∀ x, X.fn x = true) (c : Cxt X T W 3) (g : Gv X.mg T) (h_is_lasting : FnE X.prog X.w X.mg X.base T "is_lasting" 3 2 sem_is_lasting) : SB X T W ⟨H, 2, pr_is_true_of⟩ (defBody st_is_true_of) m_is_true_of := by
  unfold m_is_true_of
  exact (ss_cons (ss_if (st_not (st_val (se_f a (by decide +kernel) c h_is_lasting runD_len (by decide) (sa_cons (se_n a 1 (by decide +kernel)) (sa_cons (se_g (v := .non) a (by decide +kernel) g.LATEST) sa_nil))))) (ss_one (ss_ret se_bl)) ss_nil)
    (ss_cons (ss_if (t_gt c (e_ixA c (se_n a 0 (by decide +kernel)) se_int) se_int) (ss_one (ss_ret (e_eq c (se_n a 1 (by decide +kernel)) (se_n a 0 (by decide +kernel))))) ss_nil)
    (ss_one (ss_ret (se_and (e_eq c (e_ixA c (se_n a 1 (by decide +kernel)) se_int) se_int) (se_and (e_gt c (e_ixA c (se_n a 1 (by decide +kernel)) se_int) (e_ixA c (se_n a 0 (by decide +kernel)) se_int)) (se_one (e_gt c (e_ixA c (se_n a 1 (by decide +kernel)) se_int) se_int))))))))
theorem b_is_truth_by {X : Cx} {T : Tb} {W : WX} {H : Hp} (a : At X N_is_truth_by (defScope st_is_truth_by)) (hk : X.env.scope.kind = .function) (fn : ∀ x, X.fn x = true) (c : Cxt X T W 4) (g : Gv X.mg T) (h_is_true_of : FnE X.prog X.w X.mg X.base T "is_true_of" 4 2 sem_is_true_of) : SB X T W ⟨H, 2, pr_is_truth_by⟩ (defBody st_is_truth_by) m_is_truth_by := by
  unfold m_is_truth_by ce1_is_truth_by
  exact (ss_cons (ss_if (st_w (sw_or (st_not (st_val (se_is a c.hK (by decide +kernel) g.b_isinstance (by decide +kernel) g.b_tuple (by decide +kernel) (se_n a 1 (by decide +kernel))))) (sw_or1 (t_ne c (e_len a c (by decide +kernel) g.b_len (sa_cons (se_n a 1 (by decide +kernel)) sa_nil)) (e_len a c (by decide +kernel) g.b_len (sa_cons (se_n a 0 (by decide +kernel)) sa_nil)))))) (ss_one (ss_ret se_bl)) ss_nil)
    (ss_one (ss_ret (e_all a c (by decide +kernel) g.b_all (sa_cons (se_lc (own := [("span", 2), ("one", 3)]) c.calm c.nd (e_zs a c (by decide +kernel) g.b_zip (sd_cons (se_n a 0 (by decide +kernel)) (sd_cons (se_n a 1 (by decide +kernel)) sa_nil))) (a.blkOk (by decide +kernel)) (fun s1 H1 C1 cl1 fp1 => (sg_tup (c.blk s1 H1 _ _ fp1).hK (c.blk s1 H1 _ _ fp1).calm (sgs_cons (sg_n (a.blk s1 H1 _ cl1 C1 fp1) (c.blk s1 H1 _ _ fp1).nd (.inr (lclB_ok (by decide +kernel))) 2 (by decide +kernel) rfl) (sgs_cons (sg_n (a.blk s1 H1 _ cl1 C1 fp1) (c.blk s1 H1 _ _ fp1).nd (.inr (lclB_ok (by decide +kernel))) 3 (by decide +kernel) rfl) sgs_nil)) (gsC_len (gsC_len gs0_len)))) (fun s1 H1 C1 cl1 fp1 => sts_nil) (fun s1 H1 C1 cl1 fp1 => (se_f (a.blk s1 H1 _ cl1 C1 fp1) (by decide +kernel) (c.blk s1 H1 _ _ fp1) h_is_true_of runD_len (by decide) (sa_cons (se_n (a.blk s1 H1 _ cl1 C1 fp1) 2 (by decide +kernel)) (sa_cons (se_n (a.blk s1 H1 _ cl1 C1 fp1) 3 (by decide +kernel)) sa_nil))))) sa_nil)))))
theorem b_is_truth {X : Cx} {T : Tb} {W : WX} {H : Hp} (a : At X N_is_truth (defScope st_is_truth)) (hk : X.env.scope.kind = .function) (fn : ∀ x, X.fn x = true) (c : Cxt X T W 7) (g : Gv X.mg T) (h_need_plain : FnE X.prog X.w X.mg X.base T "need_plain" 7 1 sem_need_plain) (h_is_truth_by : FnE X.prog X.w X.mg X.base T "is_truth_by" 5 2 sem_is_truth_by) : SB X T W ⟨H, 2, pr_is_truth⟩ (defBody st_is_truth) m_is_truth := by
  unfold m_is_truth
  exact (ss_cons (ss_expr (se_f a (by decide +kernel) c h_need_plain runD_len (by decide) (sa_cons (se_n a 0 (by decide +kernel)) sa_nil)))
    (ss_one (ss_ret (se_f a (by decide +kernel) c h_is_truth_by runD_len (by decide) (sa_cons (se_n a 0 (by decide +kernel)) (sa_cons (se_n a 1 (by decide +kernel)) sa_nil))))))
theorem b_soonest_by {X : Cx} {T : Tb} {W : WX} {H : Hp} (a : At X N_soonest_by (defScope st_soonest_by)) (hk : X.env.scope.kind = .function) (fn : ∀ x, X.fn x = true) (c : Cxt X T W 0) (g : Gv X.mg T) : SB X T W ⟨H, 1, pr_soonest_by⟩ (defBody st_soonest_by) m_soonest_by := by
  unfold m_soonest_by ce1_soonest_by
  exact (ss_one (ss_ret (e_tuple a c (by decide +kernel) g.b_tuple (sa_cons (se_lc (own := [("begin", 1), ("until", 2), ("end", 3)]) c.calm c.nd (si_seq c.hK (se_n a 0 (by decide +kernel))) (a.blkOk (by decide +kernel)) (fun s1 H1 C1 cl1 fp1 => (sg_tup (c.blk s1 H1 _ _ fp1).hK (c.blk s1 H1 _ _ fp1).calm (sgs_cons (sg_n (a.blk s1 H1 _ cl1 C1 fp1) (c.blk s1 H1 _ _ fp1).nd (.inr (lclB_ok (by decide +kernel))) 1 (by decide +kernel) rfl) (sgs_cons (sg_n (a.blk s1 H1 _ cl1 C1 fp1) (c.blk s1 H1 _ _ fp1).nd (.inr (lclB_ok (by decide +kernel))) 2 (by decide +kernel) rfl) (sgs_cons (sg_n (a.blk s1 H1 _ cl1 C1 fp1) (c.blk s1 H1 _ _ fp1).nd (.inr (lclB_ok (by decide +kernel))) 3 (by decide +kernel) rfl) sgs_nil))) (gsC_len (gsC_len (gsC_len gs0_len))))) (fun s1 H1 C1 cl1 fp1 => sts_nil) (fun s1 H1 C1 cl1 fp1 => (se_ite (t_gt (c.blk s1 H1 _ _ fp1) (se_n (a.blk s1 H1 _ cl1 C1 fp1) 3 (by decide +kernel)) se_int) (se_tup (sd_cons (se_n (a.blk s1 H1 _ cl1 C1 fp1) 1 (by decide +kernel)) (sd_cons (se_n (a.blk s1 H1 _ cl1 C1 fp1) 2 (by decide +kernel)) (sd_cons (se_n (a.blk s1 H1 _ cl1 C1 fp1) 3 (by decide +kernel)) sa_nil)))) (se_tup (sd_cons se_int (sd_cons (e_add (c.blk s1 H1 _ _ fp1) (se_n (a.blk s1 H1 _ cl1 C1 fp1) 2 (by decide +kernel)) se_int) (sd_cons se_int sa_nil))))))) sa_nil))))
theorem b_soonest {X : Cx} {T : Tb} {W : WX} {H : Hp} (a : At X N_soonest (defScope st_soonest)) (hk : X.env.scope.kind = .function) (fn : ∀ x, X.fn x = true) (c : Cxt X T W 7) (g : Gv X.mg T) (h_need_plain : FnE X.prog X.w X.mg X.base T "need_plain" 7 1 sem_need_plain) (h_soonest_by : FnE X.prog X.w X.mg X.base T "soonest_by" 1 1 sem_soonest_by) : SB X T W ⟨H, 1, pr_soonest⟩ (defBody st_soonest) m_soonest := by
  unfold m_soonest
  exact (ss_cons (ss_expr (se_f a (by decide +kernel) c h_need_plain runD_len (by decide) (sa_cons (se_n a 0 (by decide +kernel)) sa_nil)))
    (ss_one (ss_ret (se_f a (by decide +kernel) c h_soonest_by runD_len (by decide) (sa_cons (se_n a 0 (by decide +kernel)) sa_nil)))))
theorem b_latest_by {X : Cx} {T : Tb} {W : WX} {H : Hp} (a : At X N_latest_by (defScope st_latest_by)) (hk : X.env.scope.kind = .function) (fn : ∀ x, X.fn x = true) (c : Cxt X T W 0) (g : Gv X.mg T) : SB X T W ⟨H, 1, pr_latest_by⟩ (defBody st_latest_by) m_latest_by := by
  unfold m_latest_by ce1_latest_by
  exact (ss_one (ss_ret (e_tuple a c (by decide +kernel) g.b_tuple (sa_cons (se_lc (own := [("begin", 1), ("until", 2), ("end", 3)]) c.calm c.nd (si_seq c.hK (se_n a 0 (by decide +kernel))) (a.blkOk (by decide +kernel)) (fun s1 H1 C1 cl1 fp1 => (sg_tup (c.blk s1 H1 _ _ fp1).hK (c.blk s1 H1 _ _ fp1).calm (sgs_cons (sg_n (a.blk s1 H1 _ cl1 C1 fp1) (c.blk s1 H1 _ _ fp1).nd (.inr (lclB_ok (by decide +kernel))) 1 (by decide +kernel) rfl) (sgs_cons (sg_n (a.blk s1 H1 _ cl1 C1 fp1) (c.blk s1 H1 _ _ fp1).nd (.inr (lclB_ok (by decide +kernel))) 2 (by decide +kernel) rfl) (sgs_cons (sg_n (a.blk s1 H1 _ cl1 C1 fp1) (c.blk s1 H1 _ _ fp1).nd (.inr (lclB_ok (by decide +kernel))) 3 (by decide +kernel) rfl) sgs_nil))) (gsC_len (gsC_len (gsC_len gs0_len))))) (fun s1 H1 C1 cl1 fp1 => sts_nil) (fun s1 H1 C1 cl1 fp1 => (se_ite (t_gt (c.blk s1 H1 _ _ fp1) (se_n (a.blk s1 H1 _ cl1 C1 fp1) 3 (by decide +kernel)) se_int) (se_tup (sd_cons (se_n (a.blk s1 H1 _ cl1 C1 fp1) 1 (by decide +kernel)) (sd_cons (se_n (a.blk s1 H1 _ cl1 C1 fp1) 2 (by decide +kernel)) (sd_cons (se_n (a.blk s1 H1 _ cl1 C1 fp1) 3 (by decide +kernel)) sa_nil)))) (se_tup (sd_cons se_int (sd_cons (se_g (v := .non) (a.blk s1 H1 _ cl1 C1 fp1) (by decide +kernel) g.LATEST) (sd_cons se_int sa_nil))))))) sa_nil))))
theorem b_latest {X : Cx} {T : Tb} {W : WX} {H : Hp} (a : At X N_latest (defScope st_latest)) (hk : X.env.scope.kind = .function) (fn : ∀ x, X.fn x = true) (c : Cxt X T W 7) (g : Gv X.mg T) (h_need_plain : FnE X.prog X.w X.mg X.base T "need_plain" 7 1 sem_need_plain) (h_latest_by : FnE X.prog X.w X.mg X.base T "latest_by" 1 1 sem_latest_by) : SB X T W ⟨H, 1, pr_latest⟩ (defBody st_latest) m_latest := by
  unfold m_latest
  exact (ss_cons (ss_expr (se_f a (by decide +kernel) c h_need_plain runD_len (by decide) (sa_cons (se_n a 0 (by decide +kernel)) sa_nil)))
    (ss_one (ss_ret (se_f a (by decide +kernel) c h_latest_by runD_len (by decide) (sa_cons (se_n a 0 (by decide +kernel)) sa_nil)))))
theorem b__law_refusal {X : Cx} {T : Tb} {W : WX} {H : Hp} {A0 : Addr} {c0 : Nat} {d0 : Option Addr} (a : At X N__law_refusal (defScope st__law_refusal)) (hk : X.env.scope.kind = .function) (fn : ∀ x, X.fn x = true) (c : CxH X (T.at A0 c0 d0) 0) (g : Gv X.mg T) : SB X (T.at A0 c0 d0) W ⟨H, 1, pr__law_refusal⟩ (defBody st__law_refusal) m__law_refusal := by
  unfold m__law_refusal
  exact (ss_cons (ss_a a c.nd fn 1 (by decide +kernel) rfl (se_lst (sd_cons (se_isE a c (by decide +kernel) g.b_isinstance (by decide +kernel) (clsN_own g.x_NoBook.g) g.i_NoBook (se_n a 0 (by decide +kernel))) (sd_cons (se_isE a c (by decide +kernel) g.b_isinstance (by decide +kernel) (clsN_own g.x_NoTime.g) g.i_NoTime (se_n a 0 (by decide +kernel))) (sd_cons (se_isE a c (by decide +kernel) g.b_isinstance (by decide +kernel) (clsN_own g.x_NoShare) g.i_NoShare (se_n a 0 (by decide +kernel))) (sd_cons (se_isE a c (by decide +kernel) g.b_isinstance (by decide +kernel) (clsN_own g.x_NoParts) g.i_NoParts (se_n a 0 (by decide +kernel))) sa_nil))))))
    (ss_cons (ss_a a c.nd fn 1 (by decide +kernel) rfl (h_add c (se_n a 1 (by decide +kernel)) (se_lst (sd_cons (se_isE a c (by decide +kernel) g.b_isinstance (by decide +kernel) (clsN_own g.x_NoPlain.g) g.i_NoPlain (se_n a 0 (by decide +kernel))) (sd_cons (se_isE a c (by decide +kernel) g.b_isinstance (by decide +kernel) (clsN_own g.x_NoKind) g.i_NoKind (se_n a 0 (by decide +kernel))) (sd_cons (se_isE a c (by decide +kernel) g.b_isinstance (by decide +kernel) (clsN_own g.x_NoMarks) g.i_NoMarks (se_n a 0 (by decide +kernel))) (sd_cons (se_isE a c (by decide +kernel) g.b_isinstance (by decide +kernel) (clsN_own g.x_NoWord) g.i_NoWord (se_n a 0 (by decide +kernel))) sa_nil)))))))
    (ss_cons (ss_a a c.nd fn 1 (by decide +kernel) rfl (h_add c (se_n a 1 (by decide +kernel)) (se_lst (sd_cons (se_isE a c (by decide +kernel) g.b_isinstance (by decide +kernel) (clsN_own g.x_NoFull) g.i_NoFull (se_n a 0 (by decide +kernel))) (sd_cons (se_isE a c (by decide +kernel) g.b_isinstance (by decide +kernel) (clsN_own g.x_NoNumber) g.i_NoNumber (se_n a 0 (by decide +kernel))) (sd_cons (se_isE a c (by decide +kernel) g.b_isinstance (by decide +kernel) (clsN_own g.x_NoBand) g.i_NoBand (se_n a 0 (by decide +kernel))) (sd_cons (se_isE a c (by decide +kernel) g.b_isinstance (by decide +kernel) (clsN_own g.x_NoName) g.i_NoName (se_n a 0 (by decide +kernel))) sa_nil)))))))
    (ss_cons (ss_a a c.nd fn 1 (by decide +kernel) rfl (h_add c (se_n a 1 (by decide +kernel)) (se_lst (sd_cons (se_isE a c (by decide +kernel) g.b_isinstance (by decide +kernel) (clsN_own g.x_NoDay) g.i_NoDay (se_n a 0 (by decide +kernel))) (sd_cons (se_isE a c (by decide +kernel) g.b_isinstance (by decide +kernel) (clsN_own g.x_NoDeed) g.i_NoDeed (se_n a 0 (by decide +kernel))) (sd_cons (se_isE a c (by decide +kernel) g.b_isinstance (by decide +kernel) (clsN_own g.x_NoFraction) g.i_NoFraction (se_n a 0 (by decide +kernel))) (sd_cons (se_isE a c (by decide +kernel) g.b_isinstance (by decide +kernel) (clsN_own g.x_NoText) g.i_NoText (se_n a 0 (by decide +kernel))) sa_nil)))))))
    (ss_cons (ss_a a c.nd fn 1 (by decide +kernel) rfl (h_add c (se_n a 1 (by decide +kernel)) (se_lst (sd_cons (se_isE a c (by decide +kernel) g.b_isinstance (by decide +kernel) (clsN_own g.x_NoLine) g.i_NoLine (se_n a 0 (by decide +kernel))) (sd_cons (se_isE a c (by decide +kernel) g.b_isinstance (by decide +kernel) (clsN_own g.x_TooMany) g.i_TooMany (se_n a 0 (by decide +kernel))) sa_nil)))))
    (ss_cons (ss_a a c.nd fn 2 (by decide +kernel) rfl (se_lst (sd_cons se_str (sd_cons se_str (sd_cons se_str (sd_cons se_str (sd_cons se_str (sd_cons se_str (sd_cons se_str (sd_cons se_str (sd_cons se_str (sd_cons se_str (sd_cons se_str (sd_cons se_str sa_nil))))))))))))))
    (ss_cons (ss_a a c.nd fn 2 (by decide +kernel) rfl (h_add c (se_n a 2 (by decide +kernel)) (se_lst (sd_cons se_str (sd_cons se_str (sd_cons se_str (sd_cons se_str (sd_cons se_str (sd_cons se_str sa_nil)))))))))
    (ss_cons (ss_if (st_w (sw_or (ht_ne c (e_cnt c.hK (se_n a 1 (by decide +kernel)) se_bl) se_int) (sw_or1 (st_not (st_val (se_isE a c (by decide +kernel) g.b_isinstance (by decide +kernel) (clsN_blt g.b_ValueError (by decide +kernel)) g.i_ValueError (se_n a 0 (by decide +kernel)))))))) (ss_one (ss_ret se_str)) ss_nil)
    (ss_one (ss_ret (h_ixA c (se_n a 2 (by decide +kernel)) (e_idx c.hK (se_n a 1 (by decide +kernel)) se_bl))))))))))))
theorem b__law_said {X : Cx} {T : Tb} {W : WX} {HB : Hp} {A0 : Addr} {c0 : Nat} {d0 : Option Addr} (a : At X N__law_said (defScope st__law_said)) (hk : X.env.scope.kind = .function) (fn : ∀ x, X.fn x = true) (c : CxH X (T.at A0 c0 d0) 1) (g : Gv X.mg T) (h__law_refusal : FnX X.prog X.w X.mg X.base T "_law_refusal" 1 1 sem__law_refusal) : SB X (T.at A0 c0 d0) W ⟨HB, 1, fun _ => false⟩ (suitOf (defBody st__law_said)) sh__law_said := by
  unfold sh__law_said
  exact (ss_one (ss_ret (se_tup (sd_cons (se_fX a (by decide +kernel) c h__law_refusal runD_len (by decide) (sa_cons (se_n a 1 (by decide +kernel)) sa_nil)) sa_nil))))
theorem b__law_alone {X : Cx} {T : Tb} {W : WX} {H : Hp} {cl0 pl0 : Addr} {ql0 : Str} (lc : LamC X T cl0 pl0 ql0) (hh : T.hot = none) (a : At X N__law_alone (defScope st__law_alone)) (hk : X.env.scope.kind = .function) (fn : ∀ x, X.fn x = true) (c : Cxt X T W 10) (g : Gv X.mg T) (h__law_said : SaidE X.prog X.w X.mg X.base T "_law_said" 1 mt_SpanError wd__law_said) (h_is_truth : FnE X.prog X.w X.mg X.base T "is_truth" 8 2 sem_is_truth) (h_soonest : FnE X.prog X.w X.mg X.base T "soonest" 8 1 sem_soonest) (h_latest : FnE X.prog X.w X.mg X.base T "latest" 8 1 sem_latest) : SB X T W ⟨H, 2, pr__law_alone⟩ (defBody st__law_alone) m__law_alone := by
  unfold m__law_alone lb3__law_alone lb2__law_alone lb1__law_alone
  exact (lamS_first (kb := 8) a c fn lc (by decide +kernel) rfl (by decide) (lamK_of a c (by decide +kernel) (fun A1 o1 s1 H1 E1 f1 d1 cc1 => (se_f (a.lam A1 o1 s1 H1 E1 _ f1 d1) (by decide +kernel) cc1 h_is_truth runD_len (by decide) (sa_cons (se_n (a.lam A1 o1 s1 H1 E1 _ f1 d1) 0 (by decide +kernel)) (sa_cons (se_n (a.lam A1 o1 s1 H1 E1 _ f1 d1) 1 (by decide +kernel)) sa_nil)))))
    (lamS_app a lc (by decide +kernel) (lamK_of a c (by decide +kernel) (fun A2 o2 s2 H2 E2 f2 d2 cc2 => (se_f (a.lam A2 o2 s2 H2 E2 _ f2 d2) (by decide +kernel) cc2 h_soonest runD_len (by decide) (sa_cons (se_n (a.lam A2 o2 s2 H2 E2 _ f2 d2) 0 (by decide +kernel)) sa_nil))))
    (lamS_app a lc (by decide +kernel) (lamK_of a c (by decide +kernel) (fun A3 o3 s3 H3 E3 f3 d3 cc3 => (se_f (a.lam A3 o3 s3 H3 E3 _ f3 d3) (by decide +kernel) cc3 h_latest runD_len (by decide) (sa_cons (se_n (a.lam A3 o3 s3 H3 E3 _ f3 d3) 0 (by decide +kernel)) sa_nil))))
    (lamS_ret a c lc h__law_said (by decide) (by decide) (by decide +kernel) (by decide +kernel) (by decide +kernel) (by decide +kernel) (by decide +kernel) (by decide +kernel)))))
theorem b__law_odd {X : Cx} {T : Tb} {W : WX} {H : Hp} (a : At X N__law_odd (defScope st__law_odd)) (hk : X.env.scope.kind = .function) (fn : ∀ x, X.fn x = true) (c : Cxt X T W 1) (g : Gv X.mg T) (h__law_take : FnE X.prog X.w X.mg X.base T "_law_take" 1 2 sem__law_take) : SB X T W ⟨H, 1, pr__law_odd⟩ (defBody st__law_odd) m__law_odd := by
  unfold m__law_odd
  exact (ss_cons (ss_a a c.nd fn 1 (by decide +kernel) rfl (se_lst (sd_cons se_non (sd_cons se_bl (sd_cons se_bl (sd_cons (e_neg c se_int) (sd_cons (e_pow c se_int se_int) (sd_cons se_str (sd_cons se_str (sd_cons se_str (sd_cons (se_tup sa_nil) (sd_cons (se_lst sa_nil) (sd_cons (e_dict0 c) (sd_cons (se_tup (sd_cons se_int (sd_cons se_int sa_nil))) (sd_cons (se_tup (sd_cons (se_tup (sd_cons se_int (sd_cons se_int (sd_cons se_int sa_nil)))) sa_nil)) (sd_cons (se_tup (sd_cons se_int (sd_cons se_int sa_nil))) (sd_cons (se_lst (sd_cons se_int sa_nil)) (sd_cons (se_dct (Rdg.cons se_int se_int Rdg.nil) (List.cons_ne_nil _ _) (Nat.le_of_ble_eq_true rfl)) sa_nil))))))))))))))))))
    (ss_one (ss_ret (e_ixA c (se_n a 1 (by decide +kernel)) (se_f a (by decide +kernel) c h__law_take runD_len (by decide) (sa_cons (se_n a 0 (by decide +kernel)) (sa_cons se_int sa_nil)))))))
theorem b__law_no_books {X : Cx} {T : Tb} {W : WX} {H : Hp} (a : At X N__law_no_books (defScope st__law_no_books)) (hk : X.env.scope.kind = .function) (fn : ∀ x, X.fn x = true) (c : Cxt X T W 0) (g : Gv X.mg T) : SB X T W ⟨H, 0, pr__law_no_books⟩ (defBody st__law_no_books) m__law_no_books := by
  unfold m__law_no_books
  exact (ss_cons (ss_a a c.nd fn 0 (by decide +kernel) rfl (se_lst (sd_cons se_non (sd_cons (se_tup sa_nil) (sd_cons (se_lst (sd_cons (se_tup (sd_cons se_int (sd_cons se_int (sd_cons se_int sa_nil)))) sa_nil)) (sd_cons (se_tup (sd_cons (se_tup (sd_cons se_int (sd_cons se_int (sd_cons se_int sa_nil)))) sa_nil)) (sd_cons (se_tup (sd_cons (se_tup (sd_cons se_int (sd_cons se_int (sd_cons se_int sa_nil)))) sa_nil)) (sd_cons (se_tup (sd_cons (se_tup (sd_cons se_int (sd_cons se_int (sd_cons se_int sa_nil)))) sa_nil)) (sd_cons (se_tup (sd_cons (se_tup (sd_cons se_int (sd_cons se_int (sd_cons se_bl sa_nil)))) sa_nil)) sa_nil)))))))))
    (ss_cons (ss_a a c.nd fn 0 (by decide +kernel) rfl (e_add c (se_n a 0 (by decide +kernel)) (se_lst (sd_cons (se_tup (sd_cons (se_tup (sd_cons (e_neg c se_int) (sd_cons se_int (sd_cons se_int sa_nil)))) sa_nil)) (sd_cons (se_tup (sd_cons (se_tup (sd_cons se_int (sd_cons se_int sa_nil))) sa_nil)) sa_nil)))))
    (ss_one (ss_ret (e_add c (se_n a 0 (by decide +kernel)) (se_lst (sd_cons (e_mulA c (se_tup (sd_cons (se_tup (sd_cons se_int (sd_cons se_int (sd_cons se_int sa_nil)))) sa_nil)) se_int) (sd_cons se_str (sd_cons (e_dict0 c) (sd_cons (se_tup (sd_cons (se_tup (sd_cons se_int (sd_cons se_int (sd_cons se_int sa_nil)))) sa_nil)) (sd_cons (se_tup (sd_cons (se_lst (sd_cons se_int (sd_cons se_int (sd_cons se_int sa_nil)))) sa_nil)) (sd_cons (se_tup (sd_cons (se_tup (sd_cons se_int (sd_cons se_int (sd_cons se_int sa_nil)))) (sd_cons se_non sa_nil))) sa_nil))))))))))))
theorem b_is_less {X : Cx} {T : Tb} {W : WX} {H : Hp} (a : At X N_is_less (defScope st_is_less)) (hk : X.env.scope.kind = .function) (fn : ∀ x, X.fn x = true) (c : Cxt X T W 0) (g : Gv X.mg T) : SB X T W ⟨H, 2, pr_is_less⟩ (defBody st_is_less) m_is_less := by
  unfold m_is_less
  exact (ss_one (ss_ret (e_lt c (e_mul c (e_ixA c (se_n a 0 (by decide +kernel)) se_int) (e_ixA c (se_n a 1 (by decide +kernel)) se_int)) (e_mul c (e_ixA c (se_n a 1 (by decide +kernel)) se_int) (e_ixA c (se_n a 0 (by decide +kernel)) se_int)))))
theorem b_common {X : Cx} {T : Tb} {W : WX} {H : Hp} (a : At X N_common (defScope st_common)) (hk : X.env.scope.kind = .function) (fn : ∀ x, X.fn x = true) (c : Cxt X T W 0) (g : Gv X.mg T) : SB X T W ⟨H, 2, pr_common⟩ (defBody st_common) m_common := by
  unfold m_common wb1_common wt1_common
  exact (ss_cons (ss_while c.po (t_ne c (se_n a 1 (by decide +kernel)) se_int) (ss_one (ss_p2 a hk c.nd c.calm 0 1 (by decide +kernel) (by decide +kernel) (by decide) rfl rfl (by decide +kernel) (se_n a 1 (by decide +kernel)) (e_mod c (se_n a 0 (by decide +kernel)) (se_n a 1 (by decide +kernel))))))
    (ss_one (ss_ret (e_abs a c (by decide +kernel) g.b_abs (sa_cons (se_n a 0 (by decide +kernel)) sa_nil)))))
theorem b_put {X : Cx} {T : Tb} {W : WX} {H : Hp} (a : At X N_put (defScope st_put)) (hk : X.env.scope.kind = .function) (fn : ∀ x, X.fn x = true) (c : Cxt X T W 1) (g : Gv X.mg T) (h_common : FnE X.prog X.w X.mg X.base T "common" 1 2 sem_common) : SB X T W ⟨H, 2, pr_put⟩ (defBody st_put) m_put := by
  unfold m_put
  exact (ss_cons (ss_a a c.nd fn 2 (by decide +kernel) rfl (e_mul c (se_f a (by decide +kernel) c h_common runD_len (by decide) (sa_cons (se_n a 0 (by decide +kernel)) (sa_cons (se_n a 1 (by decide +kernel)) sa_nil))) (se_ite (t_gt c (se_n a 1 (by decide +kernel)) se_int) se_int (e_neg c se_int))))
    (ss_one (ss_ret (se_tup (sd_cons (e_fd c (se_n a 0 (by decide +kernel)) (se_n a 2 (by decide +kernel))) (sd_cons (e_fd c (se_n a 1 (by decide +kernel)) (se_n a 2 (by decide +kernel))) sa_nil))))))
theorem b_lasting {X : Cx} {T : Tb} {W : WX} {H : Hp} (a : At X N_lasting (defScope st_lasting)) (hk : X.env.scope.kind = .function) (fn : ∀ x, X.fn x = true) (c : Cxt X T W 2) (g : Gv X.mg T) (h_put : FnE X.prog X.w X.mg X.base T "put" 2 2 sem_put) : SB X T W ⟨H, 2, pr_lasting⟩ (defBody st_lasting) m_lasting := by
  unfold m_lasting ce1_lasting cc1_lasting
  exact (ss_one (ss_ret (se_f a (by decide +kernel) c h_put runD_len (by decide) (sa_cons (e_len a c (by decide +kernel) g.b_len (sa_cons (se_lc (own := [("begin", 2), ("until", 3), ("end", 4)]) c.calm c.nd (si_seq c.hK (se_n a 0 (by decide +kernel))) (a.blkOk (by decide +kernel)) (fun s1 H1 C1 cl1 fp1 => (sg_tup (c.blk s1 H1 _ _ fp1).hK (c.blk s1 H1 _ _ fp1).calm (sgs_cons (sg_n (a.blk s1 H1 _ cl1 C1 fp1) (c.blk s1 H1 _ _ fp1).nd (.inr (lclB_ok (by decide +kernel))) 2 (by decide +kernel) rfl) (sgs_cons (sg_n (a.blk s1 H1 _ cl1 C1 fp1) (c.blk s1 H1 _ _ fp1).nd (.inr (lclB_ok (by decide +kernel))) 3 (by decide +kernel) rfl) (sgs_cons (sg_n (a.blk s1 H1 _ cl1 C1 fp1) (c.blk s1 H1 _ _ fp1).nd (.inr (lclB_ok (by decide +kernel))) 4 (by decide +kernel) rfl) sgs_nil))) (gsC_len (gsC_len (gsC_len gs0_len))))) (fun s1 H1 C1 cl1 fp1 => (sts_one (t_gt (c.blk s1 H1 _ _ fp1) (se_n (a.blk s1 H1 _ cl1 C1 fp1) 3 (by decide +kernel)) (se_n (a.blk s1 H1 _ cl1 C1 fp1) 1 (by decide +kernel))))) (fun s1 H1 C1 cl1 fp1 => se_int)) sa_nil)) (sa_cons (e_len a c (by decide +kernel) g.b_len (sa_cons (se_n a 0 (by decide +kernel)) sa_nil)) sa_nil)))))
theorem b_first_less {X : Cx} {T : Tb} {W : WX} {H : Hp} (a : At X N_first_less (defScope st_first_less)) (hk : X.env.scope.kind = .function) (fn : ∀ x, X.fn x = true) (c : Cxt X T W 3) (g : Gv X.mg T) (h_is_less : FnE X.prog X.w X.mg X.base T "is_less" 1 2 sem_is_less) (h_lasting : FnE X.prog X.w X.mg X.base T "lasting" 3 2 sem_lasting) : SB X T W ⟨H, 2, pr_first_less⟩ (defBody st_first_less) m_first_less := by
  unfold m_first_less fb1_first_less ce1_first_less
  exact (ss_cons (ss_for c.po c.calm (si_seq c.hK (e_sortS a c (by decide +kernel) g.b_sorted (se_sc (own := [("begin", 3), ("until", 4), ("end", 5)]) c (si_seq c.hK (e_add c (se_n a 0 (by decide +kernel)) (se_n a 1 (by decide +kernel)))) (a.blkOk (by decide +kernel)) (fun s1 H1 C1 cl1 fp1 => (sg_tup (c.blk s1 H1 _ _ fp1).hK (c.blk s1 H1 _ _ fp1).calm (sgs_cons (sg_n (a.blk s1 H1 _ cl1 C1 fp1) (c.blk s1 H1 _ _ fp1).nd (.inr (lclB_ok (by decide +kernel))) 3 (by decide +kernel) rfl) (sgs_cons (sg_n (a.blk s1 H1 _ cl1 C1 fp1) (c.blk s1 H1 _ _ fp1).nd (.inr (lclB_ok (by decide +kernel))) 4 (by decide +kernel) rfl) (sgs_cons (sg_n (a.blk s1 H1 _ cl1 C1 fp1) (c.blk s1 H1 _ _ fp1).nd (.inr (lclB_ok (by decide +kernel))) 5 (by decide +kernel) rfl) sgs_nil))) (gsC_len (gsC_len (gsC_len gs0_len))))) (fun s1 H1 C1 cl1 fp1 => sts_nil) (fun s1 H1 C1 cl1 fp1 => (se_n (a.blk s1 H1 _ cl1 C1 fp1) 4 (by decide +kernel)))))) (sg_n a c.nd (.inl (fn _)) 2 (by decide +kernel) rfl) (ss_one (ss_if (st_val (se_f a (by decide +kernel) c h_is_less runD_len (by decide) (sa_cons (se_f a (by decide +kernel) c h_lasting runD_len (by decide) (sa_cons (se_n a 0 (by decide +kernel)) (sa_cons (se_n a 2 (by decide +kernel)) sa_nil))) (sa_cons (se_f a (by decide +kernel) c h_lasting runD_len (by decide) (sa_cons (se_n a 1 (by decide +kernel)) (sa_cons (se_n a 2 (by decide +kernel)) sa_nil))) sa_nil)))) (ss_one (ss_ret (se_n a 2 (by decide +kernel)))) ss_nil)))
    (ss_one (ss_ret se_non)))
theorem b_may_outlast {X : Cx} {T : Tb} {W : WX} {H : Hp} (a : At X N_may_outlast (defScope st_may_outlast)) (hk : X.env.scope.kind = .function) (fn : ∀ x, X.fn x = true) (c : Cxt X T W 7) (g : Gv X.mg T) (h_need_plain : FnE X.prog X.w X.mg X.base T "need_plain" 7 1 sem_need_plain) (h_first_less : FnE X.prog X.w X.mg X.base T "first_less" 4 2 sem_first_less) (h_latest_by : FnE X.prog X.w X.mg X.base T "latest_by" 1 1 sem_latest_by) (h_soonest_by : FnE X.prog X.w X.mg X.base T "soonest_by" 1 1 sem_soonest_by) : SB X T W ⟨H, 2, pr_may_outlast⟩ (defBody st_may_outlast) m_may_outlast := by
  unfold m_may_outlast
  exact (ss_cons (ss_expr (se_f a (by decide +kernel) c h_need_plain runD_len (by decide) (sa_cons (se_n a 0 (by decide +kernel)) sa_nil)))
    (ss_cons (ss_expr (se_f a (by decide +kernel) c h_need_plain runD_len (by decide) (sa_cons (se_n a 1 (by decide +kernel)) sa_nil)))
    (ss_cons (ss_p2 a hk c.nd c.calm 3 4 (by decide +kernel) (by decide +kernel) (by decide) rfl rfl (by decide +kernel) (se_f a (by decide +kernel) c h_latest_by runD_len (by decide) (sa_cons (se_n a 0 (by decide +kernel)) sa_nil)) (se_f a (by decide +kernel) c h_soonest_by runD_len (by decide) (sa_cons (se_n a 1 (by decide +kernel)) sa_nil)))
    (ss_cons (ss_a a c.nd fn 2 (by decide +kernel) rfl (se_f a (by decide +kernel) c h_first_less runD_len (by decide) (sa_cons (se_n a 3 (by decide +kernel)) (sa_cons (se_n a 4 (by decide +kernel)) sa_nil))))
    (ss_one (ss_ret (se_ite (t_isN c (se_n a 2 (by decide +kernel)) se_non) (se_tup (sd_cons se_str (sd_cons (se_n a 3 (by decide +kernel)) (sd_cons (se_n a 4 (by decide +kernel)) sa_nil)))) (se_tup (sd_cons se_str (sd_cons (se_n a 2 (by decide +kernel)) sa_nil))))))))))
theorem b_must_outlast {X : Cx} {T : Tb} {W : WX} {H : Hp} (a : At X N_must_outlast (defScope st_must_outlast)) (hk : X.env.scope.kind = .function) (fn : ∀ x, X.fn x = true) (c : Cxt X T W 7) (g : Gv X.mg T) (h_need_plain : FnE X.prog X.w X.mg X.base T "need_plain" 7 1 sem_need_plain) (h_first_less : FnE X.prog X.w X.mg X.base T "first_less" 4 2 sem_first_less) (h_soonest_by : FnE X.prog X.w X.mg X.base T "soonest_by" 1 1 sem_soonest_by) (h_latest_by : FnE X.prog X.w X.mg X.base T "latest_by" 1 1 sem_latest_by) : SB X T W ⟨H, 2, pr_must_outlast⟩ (defBody st_must_outlast) m_must_outlast := by
  unfold m_must_outlast
  exact (ss_cons (ss_expr (se_f a (by decide +kernel) c h_need_plain runD_len (by decide) (sa_cons (se_n a 0 (by decide +kernel)) sa_nil)))
    (ss_cons (ss_expr (se_f a (by decide +kernel) c h_need_plain runD_len (by decide) (sa_cons (se_n a 1 (by decide +kernel)) sa_nil)))
    (ss_cons (ss_p2 a hk c.nd c.calm 3 4 (by decide +kernel) (by decide +kernel) (by decide) rfl rfl (by decide +kernel) (se_f a (by decide +kernel) c h_soonest_by runD_len (by decide) (sa_cons (se_n a 0 (by decide +kernel)) sa_nil)) (se_f a (by decide +kernel) c h_latest_by runD_len (by decide) (sa_cons (se_n a 1 (by decide +kernel)) sa_nil)))
    (ss_cons (ss_a a c.nd fn 2 (by decide +kernel) rfl (se_f a (by decide +kernel) c h_first_less runD_len (by decide) (sa_cons (se_n a 3 (by decide +kernel)) (sa_cons (se_n a 4 (by decide +kernel)) sa_nil))))
    (ss_one (ss_ret (se_ite (t_isN c (se_n a 2 (by decide +kernel)) se_non) (se_tup (sd_cons se_str sa_nil)) (se_tup (sd_cons se_str (sd_cons (se_n a 3 (by decide +kernel)) (sd_cons (se_n a 4 (by decide +kernel)) (sd_cons (se_n a 2 (by decide +kernel)) sa_nil))))))))))))
theorem b_are_truths {X : Cx} {T : Tb} {W : WX} {H : Hp} (a : At X N_are_truths (defScope st_are_truths)) (hk : X.env.scope.kind = .function) (fn : ∀ x, X.fn x = true) (c : Cxt X T W 5) (g : Gv X.mg T) (h_is_truth_by : FnE X.prog X.w X.mg X.base T "is_truth_by" 5 2 sem_is_truth_by) : SB X T W ⟨H, 3, pr_are_truths⟩ (defBody st_are_truths) m_are_truths := by
  unfold m_are_truths
  exact (ss_cons (ss_if (st_w (sw_or (st_not (st_val (se_is a c.hK (by decide +kernel) g.b_isinstance (by decide +kernel) g.b_tuple (by decide +kernel) (se_n a 2 (by decide +kernel))))) (sw_or1 (t_ne c (e_len a c (by decide +kernel) g.b_len (sa_cons (se_n a 2 (by decide +kernel)) sa_nil)) se_int)))) (ss_one (ss_ret se_bl)) ss_nil)
    (ss_one (ss_ret (se_and (se_f a (by decide +kernel) c h_is_truth_by runD_len (by decide) (sa_cons (se_n a 0 (by decide +kernel)) (sa_cons (e_ixA c (se_n a 2 (by decide +kernel)) se_int) sa_nil))) (se_one (se_f a (by decide +kernel) c h_is_truth_by runD_len (by decide) (sa_cons (se_n a 1 (by decide +kernel)) (sa_cons (e_ixA c (se_n a 2 (by decide +kernel)) se_int) sa_nil))))))))
theorem b_shows_may {X : Cx} {T : Tb} {W : WX} {H : Hp} (a : At X N_shows_may (defScope st_shows_may)) (hk : X.env.scope.kind = .function) (fn : ∀ x, X.fn x = true) (c : Cxt X T W 7) (g : Gv X.mg T) (h_need_plain : FnE X.prog X.w X.mg X.base T "need_plain" 7 1 sem_need_plain) (h_are_truths : FnE X.prog X.w X.mg X.base T "are_truths" 6 3 sem_are_truths) (h_first_less : FnE X.prog X.w X.mg X.base T "first_less" 4 2 sem_first_less) : SB X T W ⟨H, 3, pr_shows_may⟩ (defBody st_shows_may) m_shows_may := by
  unfold m_shows_may
  exact (ss_cons (ss_expr (se_f a (by decide +kernel) c h_need_plain runD_len (by decide) (sa_cons (se_n a 0 (by decide +kernel)) sa_nil)))
    (ss_cons (ss_expr (se_f a (by decide +kernel) c h_need_plain runD_len (by decide) (sa_cons (se_n a 1 (by decide +kernel)) sa_nil)))
    (ss_one (ss_ret (se_and (se_f a (by decide +kernel) c h_are_truths runD_len (by decide) (sa_cons (se_n a 0 (by decide +kernel)) (sa_cons (se_n a 1 (by decide +kernel)) (sa_cons (se_n a 2 (by decide +kernel)) sa_nil)))) (se_one (e_isN c (se_f a (by decide +kernel) c h_first_less runD_len (by decide) (sa_cons (e_ixA c (se_n a 2 (by decide +kernel)) se_int) (sa_cons (e_ixA c (se_n a 2 (by decide +kernel)) se_int) sa_nil))) se_non)))))))
theorem b_shows_never {X : Cx} {T : Tb} {W : WX} {H : Hp} (a : At X N_shows_never (defScope st_shows_never)) (hk : X.env.scope.kind = .function) (fn : ∀ x, X.fn x = true) (c : Cxt X T W 7) (g : Gv X.mg T) (h_need_plain : FnE X.prog X.w X.mg X.base T "need_plain" 7 1 sem_need_plain) (h_is_less : FnE X.prog X.w X.mg X.base T "is_less" 1 2 sem_is_less) (h_is_from_to : FnE X.prog X.w X.mg X.base T "is_from_to" 2 3 sem_is_from_to) (h_lasting : FnE X.prog X.w X.mg X.base T "lasting" 3 2 sem_lasting) (h_latest_by : FnE X.prog X.w X.mg X.base T "latest_by" 1 1 sem_latest_by) (h_soonest_by : FnE X.prog X.w X.mg X.base T "soonest_by" 1 1 sem_soonest_by) : SB X T W ⟨H, 3, pr_shows_never⟩ (defBody st_shows_never) m_shows_never := by
  unfold m_shows_never
  exact (ss_cons (ss_expr (se_f a (by decide +kernel) c h_need_plain runD_len (by decide) (sa_cons (se_n a 0 (by decide +kernel)) sa_nil)))
    (ss_cons (ss_expr (se_f a (by decide +kernel) c h_need_plain runD_len (by decide) (sa_cons (se_n a 1 (by decide +kernel)) sa_nil)))
    (ss_cons (ss_if (st_not (st_val (se_f a (by decide +kernel) c h_is_from_to runD_len (by decide) (sa_cons (se_n a 2 (by decide +kernel)) (sa_cons se_int (sa_cons (se_g (v := .non) a (by decide +kernel) g.MOST_TIME) sa_nil)))))) (ss_one (ss_ret se_bl)) ss_nil)
    (ss_one (ss_ret (se_f a (by decide +kernel) c h_is_less runD_len (by decide) (sa_cons (se_f a (by decide +kernel) c h_lasting runD_len (by decide) (sa_cons (se_f a (by decide +kernel) c h_latest_by runD_len (by decide) (sa_cons (se_n a 0 (by decide +kernel)) sa_nil)) (sa_cons (se_n a 2 (by decide +kernel)) sa_nil))) (sa_cons (se_f a (by decide +kernel) c h_lasting runD_len (by decide) (sa_cons (se_f a (by decide +kernel) c h_soonest_by runD_len (by decide) (sa_cons (se_n a 1 (by decide +kernel)) sa_nil)) (sa_cons (se_n a 2 (by decide +kernel)) sa_nil))) sa_nil))))))))
theorem b_shows_not {X : Cx} {T : Tb} {W : WX} {H : Hp} (a : At X N_shows_not (defScope st_shows_not)) (hk : X.env.scope.kind = .function) (fn : ∀ x, X.fn x = true) (c : Cxt X T W 7) (g : Gv X.mg T) (h_need_plain : FnE X.prog X.w X.mg X.base T "need_plain" 7 1 sem_need_plain) (h_are_truths : FnE X.prog X.w X.mg X.base T "are_truths" 6 3 sem_are_truths) (h_first_less : FnE X.prog X.w X.mg X.base T "first_less" 4 2 sem_first_less) : SB X T W ⟨H, 3, pr_shows_not⟩ (defBody st_shows_not) m_shows_not := by
  unfold m_shows_not
  exact (ss_cons (ss_expr (se_f a (by decide +kernel) c h_need_plain runD_len (by decide) (sa_cons (se_n a 0 (by decide +kernel)) sa_nil)))
    (ss_cons (ss_expr (se_f a (by decide +kernel) c h_need_plain runD_len (by decide) (sa_cons (se_n a 1 (by decide +kernel)) sa_nil)))
    (ss_one (ss_ret (se_and (se_f a (by decide +kernel) c h_are_truths runD_len (by decide) (sa_cons (se_n a 0 (by decide +kernel)) (sa_cons (se_n a 1 (by decide +kernel)) (sa_cons (se_n a 2 (by decide +kernel)) sa_nil)))) (se_one (e_notN c (se_f a (by decide +kernel) c h_first_less runD_len (by decide) (sa_cons (e_ixA c (se_n a 2 (by decide +kernel)) se_int) (sa_cons (e_ixA c (se_n a 2 (by decide +kernel)) se_int) sa_nil))) se_non)))))))
theorem b__law_words {X : Cx} {T : Tb} {W : WX} {H : Hp} {cl0 pl0 : Addr} {ql0 : Str} (lc : LamC X T cl0 pl0 ql0) (hh : T.hot = none) (a : At X N__law_words (defScope st__law_words)) (hk : X.env.scope.kind = .function) (fn : ∀ x, X.fn x = true) (c : Cxt X T W 10) (g : Gv X.mg T) (h__law_said : SaidE X.prog X.w X.mg X.base T "_law_said" 1 mt_SpanError wd__law_said) (h_may_outlast : FnE X.prog X.w X.mg X.base T "may_outlast" 8 2 sem_may_outlast) (h_must_outlast : FnE X.prog X.w X.mg X.base T "must_outlast" 8 2 sem_must_outlast) (h_shows_may : FnE X.prog X.w X.mg X.base T "shows_may" 8 3 sem_shows_may) (h_shows_never : FnE X.prog X.w X.mg X.base T "shows_never" 8 3 sem_shows_never) (h_shows_not : FnE X.prog X.w X.mg X.base T "shows_not" 8 3 sem_shows_not) : SB X T W ⟨H, 2, pr__law_words⟩ (defBody st__law_words) m__law_words := by
  unfold m__law_words lb5__law_words lb4__law_words lb3__law_words lb2__law_words lb1__law_words
  exact (lamS_first (kb := 8) a c fn lc (by decide +kernel) rfl (by decide) (lamK_of a c (by decide +kernel) (fun A1 o1 s1 H1 E1 f1 d1 cc1 => (se_f (a.lam A1 o1 s1 H1 E1 _ f1 d1) (by decide +kernel) cc1 h_may_outlast runD_len (by decide) (sa_cons (se_n (a.lam A1 o1 s1 H1 E1 _ f1 d1) 0 (by decide +kernel)) (sa_cons (se_n (a.lam A1 o1 s1 H1 E1 _ f1 d1) 1 (by decide +kernel)) sa_nil)))))
    (lamS_app a lc (by decide +kernel) (lamK_of a c (by decide +kernel) (fun A2 o2 s2 H2 E2 f2 d2 cc2 => (se_f (a.lam A2 o2 s2 H2 E2 _ f2 d2) (by decide +kernel) cc2 h_must_outlast runD_len (by decide) (sa_cons (se_n (a.lam A2 o2 s2 H2 E2 _ f2 d2) 0 (by decide +kernel)) (sa_cons (se_n (a.lam A2 o2 s2 H2 E2 _ f2 d2) 1 (by decide +kernel)) sa_nil)))))
    (lamS_app a lc (by decide +kernel) (lamK_of a c (by decide +kernel) (fun A3 o3 s3 H3 E3 f3 d3 cc3 => (se_f (a.lam A3 o3 s3 H3 E3 _ f3 d3) (by decide +kernel) cc3 h_shows_may runD_len (by decide) (sa_cons (se_n (a.lam A3 o3 s3 H3 E3 _ f3 d3) 0 (by decide +kernel)) (sa_cons (se_n (a.lam A3 o3 s3 H3 E3 _ f3 d3) 1 (by decide +kernel)) (sa_cons se_non sa_nil))))))
    (lamS_app a lc (by decide +kernel) (lamK_of a c (by decide +kernel) (fun A4 o4 s4 H4 E4 f4 d4 cc4 => (se_f (a.lam A4 o4 s4 H4 E4 _ f4 d4) (by decide +kernel) cc4 h_shows_never runD_len (by decide) (sa_cons (se_n (a.lam A4 o4 s4 H4 E4 _ f4 d4) 0 (by decide +kernel)) (sa_cons (se_n (a.lam A4 o4 s4 H4 E4 _ f4 d4) 1 (by decide +kernel)) (sa_cons se_non sa_nil))))))
    (lamS_app a lc (by decide +kernel) (lamK_of a c (by decide +kernel) (fun A5 o5 s5 H5 E5 f5 d5 cc5 => (se_f (a.lam A5 o5 s5 H5 E5 _ f5 d5) (by decide +kernel) cc5 h_shows_not runD_len (by decide) (sa_cons (se_n (a.lam A5 o5 s5 H5 E5 _ f5 d5) 0 (by decide +kernel)) (sa_cons (se_n (a.lam A5 o5 s5 H5 E5 _ f5 d5) 1 (by decide +kernel)) (sa_cons se_non sa_nil))))))
    (lamS_ret a c lc h__law_said (by decide) (by decide) (by decide +kernel) (by decide +kernel) (by decide +kernel) (by decide +kernel) (by decide +kernel) (by decide +kernel)))))))
theorem b__law_whole {X : Cx} {T : Tb} {W : WX} {H : Hp} (a : At X N__law_whole (defScope st__law_whole)) (hk : X.env.scope.kind = .function) (fn : ∀ x, X.fn x = true) (c : Cxt X T W 0) (g : Gv X.mg T) : SB X T W ⟨H, 1, pr__law_whole⟩ (defBody st__law_whole) m__law_whole := by
  unfold m__law_whole
  exact (ss_one (ss_ret (se_and (se_is a c.hK (by decide +kernel) g.b_isinstance (by decide +kernel) g.b_int (by decide +kernel) (se_n a 0 (by decide +kernel))) (se_one (se_not (se_is a c.hK (by decide +kernel) g.b_isinstance (by decide +kernel) g.b_bool (by decide +kernel) (se_n a 0 (by decide +kernel))))))))
theorem b__law_within {X : Cx} {T : Tb} {W : WX} {H : Hp} (a : At X N__law_within (defScope st__law_within)) (hk : X.env.scope.kind = .function) (fn : ∀ x, X.fn x = true) (c : Cxt X T W 1) (g : Gv X.mg T) (h__law_whole : FnE X.prog X.w X.mg X.base T "_law_whole" 1 1 sem__law_whole) : SB X T W ⟨H, 3, pr__law_within⟩ (defBody st__law_within) m__law_within := by
  unfold m__law_within
  exact (ss_one (ss_ret (se_and (se_f a (by decide +kernel) c h__law_whole runD_len (by decide) (sa_cons (se_n a 0 (by decide +kernel)) sa_nil)) (se_one (e_ch Ord.le Ord.le (se_n a 1 (by decide +kernel)) (se_n a 0 (by decide +kernel)) (se_n a 2 (by decide +kernel)))))))
theorem b_need_time {X : Cx} {T : Tb} {W : WX} {H : Hp} (a : At X N_need_time (defScope st_need_time)) (hk : X.env.scope.kind = .function) (fn : ∀ x, X.fn x = true) (c : Cxt X T W 2) (g : Gv X.mg T) (h_is_from_to : FnE X.prog X.w X.mg X.base T "is_from_to" 2 3 sem_is_from_to) : SB X T W ⟨H, 1, pr_need_time⟩ (defBody st_need_time) m_need_time := by
  unfold m_need_time
  exact (ss_one (ss_if (st_not (st_val (se_f a (by decide +kernel) c h_is_from_to runD_len (by decide) (sa_cons (se_n a 0 (by decide +kernel)) (sa_cons se_int (sa_cons (se_g (v := .non) a (by decide +kernel) g.MOST_TIME) sa_nil)))))) (ss_one (s_raise a c g.x_NoTime (by decide +kernel))) ss_nil))
theorem b_bounds {X : Cx} {T : Tb} {W : WX} {H : Hp} (a : At X N_bounds (defScope st_bounds)) (hk : X.env.scope.kind = .function) (fn : ∀ x, X.fn x = true) (c : Cxt X T W 7) (g : Gv X.mg T) (h_need_plain : FnE X.prog X.w X.mg X.base T "need_plain" 7 1 sem_need_plain) (h_need_time : FnE X.prog X.w X.mg X.base T "need_time" 3 1 sem_need_time) (h_lasting : FnE X.prog X.w X.mg X.base T "lasting" 3 2 sem_lasting) (h_soonest_by : FnE X.prog X.w X.mg X.base T "soonest_by" 1 1 sem_soonest_by) (h_latest_by : FnE X.prog X.w X.mg X.base T "latest_by" 1 1 sem_latest_by) : SB X T W ⟨H, 2, pr_bounds⟩ (defBody st_bounds) m_bounds := by
  unfold m_bounds
  exact (ss_cons (ss_expr (se_f a (by decide +kernel) c h_need_plain runD_len (by decide) (sa_cons (se_n a 0 (by decide +kernel)) sa_nil)))
    (ss_cons (ss_expr (se_f a (by decide +kernel) c h_need_time runD_len (by decide) (sa_cons (se_n a 1 (by decide +kernel)) sa_nil)))
    (ss_one (ss_ret (se_tup (sd_cons (se_f a (by decide +kernel) c h_lasting runD_len (by decide) (sa_cons (se_f a (by decide +kernel) c h_soonest_by runD_len (by decide) (sa_cons (se_n a 0 (by decide +kernel)) sa_nil)) (sa_cons (se_n a 1 (by decide +kernel)) sa_nil))) (sd_cons (se_f a (by decide +kernel) c h_lasting runD_len (by decide) (sa_cons (se_f a (by decide +kernel) c h_latest_by runD_len (by decide) (sa_cons (se_n a 0 (by decide +kernel)) sa_nil)) (sa_cons (se_n a 1 (by decide +kernel)) sa_nil))) sa_nil)))))))
theorem b_law {X : Cx} {T : Tb} {W : WX} {H : Hp} {cl0 pl0 : Addr} {ql0 : Str} (lc : LamC X T cl0 pl0 ql0) (hh : T.hot = none) (a : At X N_law (defScope st_law)) (hk : X.env.scope.kind = .function) (fn : ∀ x, X.fn x = true) (c : Cxt X T W 13) (g : Gv X.mg T) (h__law_said : SaidE X.prog X.w X.mg X.base T "_law_said" 1 mt_SpanError wd__law_said) (h__law_pot : FnE X.prog X.w X.mg X.base T "_law_pot" 1 1 sem__law_pot) (h__law_plain : FnE X.prog X.w X.mg X.base T "_law_plain" 2 3 sem__law_plain) (h__law_mixed : FnE X.prog X.w X.mg X.base T "_law_mixed" 2 2 sem__law_mixed) (h__law_cell_at : FnE X.prog X.w X.mg X.base T "_law_cell_at" 1 2 sem__law_cell_at) (h__law_alone : FnE X.prog X.w X.mg X.base T "_law_alone" 11 2 sem__law_alone) (h__law_odd : FnE X.prog X.w X.mg X.base T "_law_odd" 2 1 sem__law_odd) (h__law_no_books : FnE X.prog X.w X.mg X.base T "_law_no_books" 1 0 sem__law_no_books) (h__law_take : FnE X.prog X.w X.mg X.base T "_law_take" 1 2 sem__law_take) (h__law_words : FnE X.prog X.w X.mg X.base T "_law_words" 11 2 sem__law_words) (h__law_within : FnE X.prog X.w X.mg X.base T "_law_within" 2 3 sem__law_within) (h_bounds : FnE X.prog X.w X.mg X.base T "bounds" 8 2 sem_bounds) : SB X T W ⟨H, 1, pr_law⟩ (defBody st_law) m_law := by
  unfold m_law fb5_law fb4_law fb3_law fb2_law fb1_law lb1_law ce1_law
  exact (ss_cons (ss_for c.po c.calm (e_rng1 a (by decide +kernel) g.b_range (e_max2 a c (by decide +kernel) g.b_max (sa_cons se_int (sa_cons (e_min2 a c (by decide +kernel) g.b_min (sa_cons (e_len a c (by decide +kernel) g.b_len (sa_cons (se_n a 0 (by decide +kernel)) sa_nil)) (sa_cons se_int sa_nil))) sa_nil)))) (sg_n a c.nd (.inl (fn _)) 1 (by decide +kernel) rfl) (ss_cons (ss_a a c.nd fn 2 (by decide +kernel) rfl (se_f a (by decide +kernel) c h__law_pot runD_len (by decide) (sa_cons (se_f a (by decide +kernel) c h__law_cell_at runD_len (by decide) (sa_cons (se_n a 0 (by decide +kernel)) (sa_cons (se_n a 1 (by decide +kernel)) sa_nil))) sa_nil)))
    (ss_cons (ss_a a c.nd fn 3 (by decide +kernel) rfl (se_f a (by decide +kernel) c h__law_plain runD_len (by decide) (sa_cons (se_n a 2 (by decide +kernel)) (sa_cons se_int (sa_cons se_int sa_nil)))))
    (ss_cons (ss_a a c.nd fn 4 (by decide +kernel) rfl (se_f a (by decide +kernel) c h__law_mixed runD_len (by decide) (sa_cons (se_n a 2 (by decide +kernel)) (sa_cons (e_add c (e_list a c (by decide +kernel) g.b_list (sa_cons (se_slice c.hK (se_n a 3 (by decide +kernel)) (so_some se_int) so_none) sa_nil)) (se_lst (sd_cons (se_tup (sd_cons se_int (sd_cons se_int (sd_cons (se_f a (by decide +kernel) c h__law_take runD_len (by decide) (sa_cons (se_n a 2 (by decide +kernel)) (sa_cons se_int sa_nil))) sa_nil)))) sa_nil))) sa_nil))))
    (ss_cons (ss_a a c.nd fn 5 (by decide +kernel) rfl (e_add c (se_lst (sd_cons (se_tup (sd_cons (se_n a 3 (by decide +kernel)) (sd_cons se_str sa_nil))) (sd_cons (se_tup (sd_cons (e_tuple a c (by decide +kernel) g.b_tuple (sa_cons (se_n a 4 (by decide +kernel)) sa_nil)) (sd_cons se_str sa_nil))) sa_nil))) (se_lc (own := [("_law_bad", 13)]) c.calm c.nd (si_seq c.hK (se_f0 a (by decide +kernel) c h__law_no_books runD_len (by decide))) (a.blkOk (by decide +kernel)) (fun s1 H1 C1 cl1 fp1 => (sg_n (a.blk s1 H1 _ cl1 C1 fp1) (c.blk s1 H1 _ _ fp1).nd (.inr (lclB_ok (by decide +kernel))) 13 (by decide +kernel) rfl)) (fun s1 H1 C1 cl1 fp1 => sts_nil) (fun s1 H1 C1 cl1 fp1 => (se_tup (sd_cons (se_n (a.blk s1 H1 _ cl1 C1 fp1) 13 (by decide +kernel)) (sd_cons se_str sa_nil)))))))
    (ss_cons (ss_for c.po c.calm (si_seq c.hK (se_n a 5 (by decide +kernel))) (sg_tup c.hK c.calm (sgs_cons (sg_n a c.nd (.inl (fn _)) 6 (by decide +kernel) rfl) (sgs_cons (sg_n a c.nd (.inl (fn _)) 7 (by decide +kernel) rfl) sgs_nil)) (gsC_len (gsC_len gs0_len))) (ss_cons (ss_if (t_ne c (se_f a (by decide +kernel) c h__law_alone runD_len (by decide) (sa_cons (se_n a 6 (by decide +kernel)) (sa_cons (se_f a (by decide +kernel) c h__law_odd runD_len (by decide) (sa_cons (se_n a 2 (by decide +kernel)) sa_nil)) sa_nil))) (e_rep c (se_lst (sd_cons (se_n a 7 (by decide +kernel)) sa_nil)) se_int)) (ss_one (ss_ret se_bl)) ss_nil)
    (ss_one (ss_for c.po c.calm (si_seq c.hK (se_lst (sd_cons se_int (sd_cons se_int (sd_cons (e_neg c se_int) (sd_cons se_int (sd_cons se_bl (sd_cons se_non (sd_cons se_str (sd_cons (se_tup (sd_cons se_int sa_nil)) (sd_cons (se_f a (by decide +kernel) c h__law_odd runD_len (by decide) (sa_cons (se_n a 2 (by decide +kernel)) sa_nil)) sa_nil))))))))))) (sg_n a c.nd (.inl (fn _)) 8 (by decide +kernel) rfl) (ss_cons (ss_a a c.nd fn 9 (by decide +kernel) rfl (se_ite (st_w (sw_and (t_eq c (se_n a 7 (by decide +kernel)) se_str) (sw_and1 (st_not (st_val (se_f a (by decide +kernel) c h__law_within runD_len (by decide) (sa_cons (se_n a 8 (by decide +kernel)) (sa_cons se_int (sa_cons se_int sa_nil))))))))) se_str (se_n a 7 (by decide +kernel))))
    (ss_cons (ss_a a c.nd fn 10 (by decide +kernel) rfl (e_repr a c (by decide +kernel) g.b_repr (sa_cons (se_tup (sd_cons (se_n a 6 (by decide +kernel)) (sd_cons (se_n a 8 (by decide +kernel)) sa_nil))) sa_nil)))
    (ss_one (ss_if (st_w (sw_or (t_ne c (e_ixA c (se_said (kb := 8) a (by decide +kernel) c hh lc h__law_said (by decide) (by decide) (by decide +kernel) (fun A2 o2 s2 H2 E2 f2 d2 cc2 => (se_f (a.lam A2 o2 s2 H2 E2 _ f2 d2) (by decide +kernel) cc2 h_bounds runD_len (by decide) (sa_cons (se_n (a.lam A2 o2 s2 H2 E2 _ f2 d2) 6 (by decide +kernel)) (sa_cons (se_n (a.lam A2 o2 s2 H2 E2 _ f2 d2) 8 (by decide +kernel)) sa_nil))))) se_int) (se_n a 9 (by decide +kernel))) (sw_or1 (t_ne c (e_repr a c (by decide +kernel) g.b_repr (sa_cons (se_tup (sd_cons (se_n a 6 (by decide +kernel)) (sd_cons (se_n a 8 (by decide +kernel)) sa_nil))) sa_nil)) (se_n a 10 (by decide +kernel)))))) (ss_one (ss_ret se_bl)) ss_nil))))))))
    (ss_one (ss_for c.po c.calm (si_seq c.hK (se_n a 5 (by decide +kernel))) (sg_tup c.hK c.calm (sgs_cons (sg_n a c.nd (.inl (fn _)) 6 (by decide +kernel) rfl) (sgs_cons (sg_n a c.nd (.inl (fn _)) 7 (by decide +kernel) rfl) sgs_nil)) (gsC_len (gsC_len gs0_len))) (ss_one (ss_for c.po c.calm (si_seq c.hK (se_lst (sd_cons (e_ixA c (se_n a 5 (by decide +kernel)) (se_f a (by decide +kernel) c h__law_take runD_len (by decide) (sa_cons (se_n a 2 (by decide +kernel)) (sa_cons (e_len a c (by decide +kernel) g.b_len (sa_cons (se_n a 5 (by decide +kernel)) sa_nil)) sa_nil)))) (sd_cons (e_ixA c (se_n a 5 (by decide +kernel)) se_int) (sd_cons (e_ixA c (se_n a 5 (by decide +kernel)) se_int) sa_nil))))) (sg_tup c.hK c.calm (sgs_cons (sg_n a c.nd (.inl (fn _)) 11 (by decide +kernel) rfl) (sgs_cons (sg_n a c.nd (.inl (fn _)) 12 (by decide +kernel) rfl) sgs_nil)) (gsC_len (gsC_len gs0_len))) (ss_cons (ss_p2 a hk c.nd c.calm 9 10 (by decide +kernel) (by decide +kernel) (by decide) rfl rfl (by decide +kernel) (se_ite (t_eq c (se_n a 7 (by decide +kernel)) se_str) (se_n a 12 (by decide +kernel)) (se_n a 7 (by decide +kernel))) (e_repr a c (by decide +kernel) g.b_repr (sa_cons (se_tup (sd_cons (se_n a 6 (by decide +kernel)) (sd_cons (se_n a 11 (by decide +kernel)) sa_nil))) sa_nil)))
    (ss_one (ss_if (st_w (sw_or (t_ne c (se_f a (by decide +kernel) c h__law_words runD_len (by decide) (sa_cons (se_n a 6 (by decide +kernel)) (sa_cons (se_n a 11 (by decide +kernel)) sa_nil))) (e_rep c (se_lst (sd_cons (se_n a 9 (by decide +kernel)) sa_nil)) se_int)) (sw_or1 (t_ne c (e_repr a c (by decide +kernel) g.b_repr (sa_cons (se_tup (sd_cons (se_n a 6 (by decide +kernel)) (sd_cons (se_n a 11 (by decide +kernel)) sa_nil))) sa_nil)) (se_n a 10 (by decide +kernel)))))) (ss_one (ss_ret se_bl)) ss_nil)))))))))))))
    (ss_one (ss_ret se_bl)))
theorem all_mk {ts : List Addr} {P : Program} {w : World} {K : PySem.W.Frag} {h : Heap} {mg : Str → Option Value} {fa : Addr} (X : K.In h) (G : h.Ns mainGlobals mg) (hfa : mg "law" = some (.ref fa))
    {f__law_pot : Addr} {od__law_pot an__law_pot : Option Addr} {sl__law_pot : Array (Option Value)} {oc__law_pot kV__law_pot dc__law_pot pm__law_pot cd__law_pot ct__law_pot : Value}
    {f__law_take : Addr} {od__law_take an__law_take : Option Addr} {sl__law_take : Array (Option Value)} {oc__law_take kV__law_take dc__law_take pm__law_take cd__law_take ct__law_take : Value}
    {f__law_plain : Addr} {od__law_plain an__law_plain : Option Addr} {sl__law_plain : Array (Option Value)} {oc__law_plain kV__law_plain dc__law_plain pm__law_plain cd__law_plain ct__law_plain : Value}
    {f__law_mixed : Addr} {od__law_mixed an__law_mixed : Option Addr} {sl__law_mixed : Array (Option Value)} {oc__law_mixed kV__law_mixed dc__law_mixed pm__law_mixed cd__law_mixed ct__law_mixed : Value}
    {f__law_cell_at : Addr} {od__law_cell_at an__law_cell_at : Option Addr} {sl__law_cell_at : Array (Option Value)} {oc__law_cell_at kV__law_cell_at dc__law_cell_at pm__law_cell_at cd__law_cell_at ct__law_cell_at : Value}
    {f_is_whole : Addr} {od_is_whole an_is_whole : Option Addr} {sl_is_whole : Array (Option Value)} {oc_is_whole kV_is_whole dc_is_whole pm_is_whole cd_is_whole ct_is_whole : Value}
    {f_is_from_to : Addr} {od_is_from_to an_is_from_to : Option Addr} {sl_is_from_to : Array (Option Value)} {oc_is_from_to kV_is_from_to dc_is_from_to pm_is_from_to cd_is_from_to ct_is_from_to : Value}
    {f_is_lasting : Addr} {od_is_lasting an_is_lasting : Option Addr} {sl_is_lasting : Array (Option Value)} {oc_is_lasting kV_is_lasting dc_is_lasting pm_is_lasting cd_is_lasting ct_is_lasting : Value}
    {f_is_span : Addr} {od_is_span an_is_span : Option Addr} {sl_is_span : Array (Option Value)} {oc_is_span kV_is_span dc_is_span pm_is_span cd_is_span ct_is_span : Value}
    {f_is_book : Addr} {od_is_book an_is_book : Option Addr} {sl_is_book : Array (Option Value)} {oc_is_book kV_is_book dc_is_book pm_is_book cd_is_book ct_is_book : Value}
    {f_need_book : Addr} {od_need_book an_need_book : Option Addr} {sl_need_book : Array (Option Value)} {oc_need_book kV_need_book dc_need_book pm_need_book cd_need_book ct_need_book : Value}
    {f_need_plain : Addr} {od_need_plain an_need_plain : Option Addr} {sl_need_plain : Array (Option Value)} {oc_need_plain kV_need_plain dc_need_plain pm_need_plain cd_need_plain ct_need_plain : Value}
    {f_is_true_of : Addr} {od_is_true_of an_is_true_of : Option Addr} {sl_is_true_of : Array (Option Value)} {oc_is_true_of kV_is_true_of dc_is_true_of pm_is_true_of cd_is_true_of ct_is_true_of : Value}
    {f_is_truth_by : Addr} {od_is_truth_by an_is_truth_by : Option Addr} {sl_is_truth_by : Array (Option Value)} {oc_is_truth_by kV_is_truth_by dc_is_truth_by pm_is_truth_by cd_is_truth_by ct_is_truth_by : Value}
    {f_is_truth : Addr} {od_is_truth an_is_truth : Option Addr} {sl_is_truth : Array (Option Value)} {oc_is_truth kV_is_truth dc_is_truth pm_is_truth cd_is_truth ct_is_truth : Value}
    {f_soonest_by : Addr} {od_soonest_by an_soonest_by : Option Addr} {sl_soonest_by : Array (Option Value)} {oc_soonest_by kV_soonest_by dc_soonest_by pm_soonest_by cd_soonest_by ct_soonest_by : Value}
    {f_soonest : Addr} {od_soonest an_soonest : Option Addr} {sl_soonest : Array (Option Value)} {oc_soonest kV_soonest dc_soonest pm_soonest cd_soonest ct_soonest : Value}
    {f_latest_by : Addr} {od_latest_by an_latest_by : Option Addr} {sl_latest_by : Array (Option Value)} {oc_latest_by kV_latest_by dc_latest_by pm_latest_by cd_latest_by ct_latest_by : Value}
    {f_latest : Addr} {od_latest an_latest : Option Addr} {sl_latest : Array (Option Value)} {oc_latest kV_latest dc_latest pm_latest cd_latest ct_latest : Value}
    {f__law_refusal : Addr} {od__law_refusal an__law_refusal : Option Addr} {sl__law_refusal : Array (Option Value)} {oc__law_refusal kV__law_refusal dc__law_refusal pm__law_refusal cd__law_refusal ct__law_refusal : Value}
    {f__law_said : Addr} {od__law_said an__law_said : Option Addr} {sl__law_said : Array (Option Value)} {oc__law_said kV__law_said dc__law_said pm__law_said cd__law_said ct__law_said : Value}
    {f__law_alone : Addr} {od__law_alone an__law_alone : Option Addr} {sl__law_alone : Array (Option Value)} {oc__law_alone kV__law_alone dc__law_alone pm__law_alone ct__law_alone : Value} {ca__law_alone pa__law_alone : Addr} {xa__law_alone : Value} {xb__law_alone : Option Addr} {vs__law_alone : Array Value} {xc__law_alone : Array (Option Value)}
    {f__law_odd : Addr} {od__law_odd an__law_odd : Option Addr} {sl__law_odd : Array (Option Value)} {oc__law_odd kV__law_odd dc__law_odd pm__law_odd cd__law_odd ct__law_odd : Value}
    {f__law_no_books : Addr} {od__law_no_books an__law_no_books : Option Addr} {sl__law_no_books : Array (Option Value)} {oc__law_no_books kV__law_no_books dc__law_no_books pm__law_no_books cd__law_no_books ct__law_no_books : Value}
    {f_is_less : Addr} {od_is_less an_is_less : Option Addr} {sl_is_less : Array (Option Value)} {oc_is_less kV_is_less dc_is_less pm_is_less cd_is_less ct_is_less : Value}
    {f_common : Addr} {od_common an_common : Option Addr} {sl_common : Array (Option Value)} {oc_common kV_common dc_common pm_common cd_common ct_common : Value}
    {f_put : Addr} {od_put an_put : Option Addr} {sl_put : Array (Option Value)} {oc_put kV_put dc_put pm_put cd_put ct_put : Value}
    {f_lasting : Addr} {od_lasting an_lasting : Option Addr} {sl_lasting : Array (Option Value)} {oc_lasting kV_lasting dc_lasting pm_lasting cd_lasting ct_lasting : Value}
    {f_first_less : Addr} {od_first_less an_first_less : Option Addr} {sl_first_less : Array (Option Value)} {oc_first_less kV_first_less dc_first_less pm_first_less cd_first_less ct_first_less : Value}
    {f_may_outlast : Addr} {od_may_outlast an_may_outlast : Option Addr} {sl_may_outlast : Array (Option Value)} {oc_may_outlast kV_may_outlast dc_may_outlast pm_may_outlast cd_may_outlast ct_may_outlast : Value}
    {f_must_outlast : Addr} {od_must_outlast an_must_outlast : Option Addr} {sl_must_outlast : Array (Option Value)} {oc_must_outlast kV_must_outlast dc_must_outlast pm_must_outlast cd_must_outlast ct_must_outlast : Value}
    {f_are_truths : Addr} {od_are_truths an_are_truths : Option Addr} {sl_are_truths : Array (Option Value)} {oc_are_truths kV_are_truths dc_are_truths pm_are_truths cd_are_truths ct_are_truths : Value}
    {f_shows_may : Addr} {od_shows_may an_shows_may : Option Addr} {sl_shows_may : Array (Option Value)} {oc_shows_may kV_shows_may dc_shows_may pm_shows_may cd_shows_may ct_shows_may : Value}
    {f_shows_never : Addr} {od_shows_never an_shows_never : Option Addr} {sl_shows_never : Array (Option Value)} {oc_shows_never kV_shows_never dc_shows_never pm_shows_never cd_shows_never ct_shows_never : Value}
    {f_shows_not : Addr} {od_shows_not an_shows_not : Option Addr} {sl_shows_not : Array (Option Value)} {oc_shows_not kV_shows_not dc_shows_not pm_shows_not cd_shows_not ct_shows_not : Value}
    {f__law_words : Addr} {od__law_words an__law_words : Option Addr} {sl__law_words : Array (Option Value)} {oc__law_words kV__law_words dc__law_words pm__law_words ct__law_words : Value} {ca__law_words pa__law_words : Addr} {xa__law_words : Value} {xb__law_words : Option Addr} {vs__law_words : Array Value} {xc__law_words : Array (Option Value)}
    {f__law_whole : Addr} {od__law_whole an__law_whole : Option Addr} {sl__law_whole : Array (Option Value)} {oc__law_whole kV__law_whole dc__law_whole pm__law_whole cd__law_whole ct__law_whole : Value}
    {f__law_within : Addr} {od__law_within an__law_within : Option Addr} {sl__law_within : Array (Option Value)} {oc__law_within kV__law_within dc__law_within pm__law_within cd__law_within ct__law_within : Value}
    {f_need_time : Addr} {od_need_time an_need_time : Option Addr} {sl_need_time : Array (Option Value)} {oc_need_time kV_need_time dc_need_time pm_need_time cd_need_time ct_need_time : Value}
    {f_bounds : Addr} {od_bounds an_bounds : Option Addr} {sl_bounds : Array (Option Value)} {oc_bounds kV_bounds dc_bounds pm_bounds cd_bounds ct_bounds : Value}
    {f_law : Addr} {od_law an_law : Option Addr} {sl_law : Array (Option Value)} {oc_law kV_law dc_law pm_law ct_law : Value} {ca_law pa_law : Addr} {xa_law : Value} {xb_law : Option Addr} {vs_law : Array Value} {xc_law : Array (Option Value)}
    {p_KINDS : Addr} {dd_KINDS : Option Addr} {nn_KINDS : Nat} {ss_KINDS : Array (Option Value)} {t0_KINDS t1_KINDS t2_KINDS t3_KINDS : Tok}
    {t_LATEST : Tok}
    {t_MOST_AGE : Tok}
    {t_MOST_SPANS : Tok}
    {t_MOST_TIME : Tok}
    {e_SpanError : Addr}
    {e_NoBook : Addr}
    {e_NoTime : Addr}
    {e_NoShare : Addr}
    {e_NoParts : Addr}
    {e_NoPlain : Addr}
    {e_NoKind : Addr}
    {e_NoMarks : Addr}
    {e_NoWord : Addr}
    {e_NoFull : Addr}
    {e_NoNumber : Addr}
    {e_NoBand : Addr}
    {e_NoName : Addr}
    {e_NoDay : Addr}
    {e_NoDeed : Addr}
    {e_NoFraction : Addr}
    {e_NoText : Addr}
    {e_NoLine : Addr}
    {e_TooMany : Addr}
    (a__law_pot : PySem.W.nsIn K mainGlobals "_law_pot" = some (some (.ref f__law_pot)))
    (l__law_pot : K.lookup f__law_pot = some ⟨oc__law_pot, od__law_pot, .func (PySem.W.fnOf "_law_pot" "_law_pot" (defArgs st__law_pot) (defBody st__law_pot) (defScope st__law_pot) .none kV__law_pot dc__law_pot pm__law_pot an__law_pot cd__law_pot ct__law_pot), sl__law_pot⟩)
    (c__law_pot : PySem.W.codeIn K cd__law_pot "_law_pot" = true)
    (k__law_pot : PySem.W.keepIn K (.ref f__law_pot) = true)
    (a__law_take : PySem.W.nsIn K mainGlobals "_law_take" = some (some (.ref f__law_take)))
    (l__law_take : K.lookup f__law_take = some ⟨oc__law_take, od__law_take, .func (PySem.W.fnOf "_law_take" "_law_take" (defArgs st__law_take) (defBody st__law_take) (defScope st__law_take) .none kV__law_take dc__law_take pm__law_take an__law_take cd__law_take ct__law_take), sl__law_take⟩)
    (c__law_take : PySem.W.codeIn K cd__law_take "_law_take" = true)
    (k__law_take : PySem.W.keepIn K (.ref f__law_take) = true)
    (a__law_plain : PySem.W.nsIn K mainGlobals "_law_plain" = some (some (.ref f__law_plain)))
    (l__law_plain : K.lookup f__law_plain = some ⟨oc__law_plain, od__law_plain, .func (PySem.W.fnOf "_law_plain" "_law_plain" (defArgs st__law_plain) (defBody st__law_plain) (defScope st__law_plain) .none kV__law_plain dc__law_plain pm__law_plain an__law_plain cd__law_plain ct__law_plain), sl__law_plain⟩)
    (c__law_plain : PySem.W.codeIn K cd__law_plain "_law_plain" = true)
    (k__law_plain : PySem.W.keepIn K (.ref f__law_plain) = true)
    (a__law_mixed : PySem.W.nsIn K mainGlobals "_law_mixed" = some (some (.ref f__law_mixed)))
    (l__law_mixed : K.lookup f__law_mixed = some ⟨oc__law_mixed, od__law_mixed, .func (PySem.W.fnOf "_law_mixed" "_law_mixed" (defArgs st__law_mixed) (defBody st__law_mixed) (defScope st__law_mixed) .none kV__law_mixed dc__law_mixed pm__law_mixed an__law_mixed cd__law_mixed ct__law_mixed), sl__law_mixed⟩)
    (c__law_mixed : PySem.W.codeIn K cd__law_mixed "_law_mixed" = true)
    (k__law_mixed : PySem.W.keepIn K (.ref f__law_mixed) = true)
    (a__law_cell_at : PySem.W.nsIn K mainGlobals "_law_cell_at" = some (some (.ref f__law_cell_at)))
    (l__law_cell_at : K.lookup f__law_cell_at = some ⟨oc__law_cell_at, od__law_cell_at, .func (PySem.W.fnOf "_law_cell_at" "_law_cell_at" (defArgs st__law_cell_at) (defBody st__law_cell_at) (defScope st__law_cell_at) .none kV__law_cell_at dc__law_cell_at pm__law_cell_at an__law_cell_at cd__law_cell_at ct__law_cell_at), sl__law_cell_at⟩)
    (c__law_cell_at : PySem.W.codeIn K cd__law_cell_at "_law_cell_at" = true)
    (k__law_cell_at : PySem.W.keepIn K (.ref f__law_cell_at) = true)
    (a_is_whole : PySem.W.nsIn K mainGlobals "is_whole" = some (some (.ref f_is_whole)))
    (l_is_whole : K.lookup f_is_whole = some ⟨oc_is_whole, od_is_whole, .func (PySem.W.fnOf "is_whole" "is_whole" (defArgs st_is_whole) (defBody st_is_whole) (defScope st_is_whole) .none kV_is_whole dc_is_whole pm_is_whole an_is_whole cd_is_whole ct_is_whole), sl_is_whole⟩)
    (c_is_whole : PySem.W.codeIn K cd_is_whole "is_whole" = true)
    (k_is_whole : PySem.W.keepIn K (.ref f_is_whole) = true)
    (a_is_from_to : PySem.W.nsIn K mainGlobals "is_from_to" = some (some (.ref f_is_from_to)))
    (l_is_from_to : K.lookup f_is_from_to = some ⟨oc_is_from_to, od_is_from_to, .func (PySem.W.fnOf "is_from_to" "is_from_to" (defArgs st_is_from_to) (defBody st_is_from_to) (defScope st_is_from_to) .none kV_is_from_to dc_is_from_to pm_is_from_to an_is_from_to cd_is_from_to ct_is_from_to), sl_is_from_to⟩)
    (c_is_from_to : PySem.W.codeIn K cd_is_from_to "is_from_to" = true)
    (k_is_from_to : PySem.W.keepIn K (.ref f_is_from_to) = true)
    (a_is_lasting : PySem.W.nsIn K mainGlobals "is_lasting" = some (some (.ref f_is_lasting)))
    (l_is_lasting : K.lookup f_is_lasting = some ⟨oc_is_lasting, od_is_lasting, .func (PySem.W.fnOf "is_lasting" "is_lasting" (defArgs st_is_lasting) (defBody st_is_lasting) (defScope st_is_lasting) .none kV_is_lasting dc_is_lasting pm_is_lasting an_is_lasting cd_is_lasting ct_is_lasting), sl_is_lasting⟩)
    (c_is_lasting : PySem.W.codeIn K cd_is_lasting "is_lasting" = true)
    (k_is_lasting : PySem.W.keepIn K (.ref f_is_lasting) = true)
    (a_is_span : PySem.W.nsIn K mainGlobals "is_span" = some (some (.ref f_is_span)))
    (l_is_span : K.lookup f_is_span = some ⟨oc_is_span, od_is_span, .func (PySem.W.fnOf "is_span" "is_span" (defArgs st_is_span) (defBody st_is_span) (defScope st_is_span) .none kV_is_span dc_is_span pm_is_span an_is_span cd_is_span ct_is_span), sl_is_span⟩)
    (c_is_span : PySem.W.codeIn K cd_is_span "is_span" = true)
    (k_is_span : PySem.W.keepIn K (.ref f_is_span) = true)
    (a_is_book : PySem.W.nsIn K mainGlobals "is_book" = some (some (.ref f_is_book)))
    (l_is_book : K.lookup f_is_book = some ⟨oc_is_book, od_is_book, .func (PySem.W.fnOf "is_book" "is_book" (defArgs st_is_book) (defBody st_is_book) (defScope st_is_book) .none kV_is_book dc_is_book pm_is_book an_is_book cd_is_book ct_is_book), sl_is_book⟩)
    (c_is_book : PySem.W.codeIn K cd_is_book "is_book" = true)
    (k_is_book : PySem.W.keepIn K (.ref f_is_book) = true)
    (a_need_book : PySem.W.nsIn K mainGlobals "need_book" = some (some (.ref f_need_book)))
    (l_need_book : K.lookup f_need_book = some ⟨oc_need_book, od_need_book, .func (PySem.W.fnOf "need_book" "need_book" (defArgs st_need_book) (defBody st_need_book) (defScope st_need_book) .none kV_need_book dc_need_book pm_need_book an_need_book cd_need_book ct_need_book), sl_need_book⟩)
    (c_need_book : PySem.W.codeIn K cd_need_book "need_book" = true)
    (k_need_book : PySem.W.keepIn K (.ref f_need_book) = true)
    (a_need_plain : PySem.W.nsIn K mainGlobals "need_plain" = some (some (.ref f_need_plain)))
    (l_need_plain : K.lookup f_need_plain = some ⟨oc_need_plain, od_need_plain, .func (PySem.W.fnOf "need_plain" "need_plain" (defArgs st_need_plain) (defBody st_need_plain) (defScope st_need_plain) .none kV_need_plain dc_need_plain pm_need_plain an_need_plain cd_need_plain ct_need_plain), sl_need_plain⟩)
    (c_need_plain : PySem.W.codeIn K cd_need_plain "need_plain" = true)
    (k_need_plain : PySem.W.keepIn K (.ref f_need_plain) = true)
    (a_is_true_of : PySem.W.nsIn K mainGlobals "is_true_of" = some (some (.ref f_is_true_of)))
    (l_is_true_of : K.lookup f_is_true_of = some ⟨oc_is_true_of, od_is_true_of, .func (PySem.W.fnOf "is_true_of" "is_true_of" (defArgs st_is_true_of) (defBody st_is_true_of) (defScope st_is_true_of) .none kV_is_true_of dc_is_true_of pm_is_true_of an_is_true_of cd_is_true_of ct_is_true_of), sl_is_true_of⟩)
    (c_is_true_of : PySem.W.codeIn K cd_is_true_of "is_true_of" = true)
    (k_is_true_of : PySem.W.keepIn K (.ref f_is_true_of) = true)
    (a_is_truth_by : PySem.W.nsIn K mainGlobals "is_truth_by" = some (some (.ref f_is_truth_by)))
    (l_is_truth_by : K.lookup f_is_truth_by = some ⟨oc_is_truth_by, od_is_truth_by, .func (PySem.W.fnOf "is_truth_by" "is_truth_by" (defArgs st_is_truth_by) (defBody st_is_truth_by) (defScope st_is_truth_by) .none kV_is_truth_by dc_is_truth_by pm_is_truth_by an_is_truth_by cd_is_truth_by ct_is_truth_by), sl_is_truth_by⟩)
    (c_is_truth_by : PySem.W.codeIn K cd_is_truth_by "is_truth_by" = true)
    (k_is_truth_by : PySem.W.keepIn K (.ref f_is_truth_by) = true)
    (a_is_truth : PySem.W.nsIn K mainGlobals "is_truth" = some (some (.ref f_is_truth)))
    (l_is_truth : K.lookup f_is_truth = some ⟨oc_is_truth, od_is_truth, .func (PySem.W.fnOf "is_truth" "is_truth" (defArgs st_is_truth) (defBody st_is_truth) (defScope st_is_truth) .none kV_is_truth dc_is_truth pm_is_truth an_is_truth cd_is_truth ct_is_truth), sl_is_truth⟩)
    (c_is_truth : PySem.W.codeIn K cd_is_truth "is_truth" = true)
    (k_is_truth : PySem.W.keepIn K (.ref f_is_truth) = true)
    (a_soonest_by : PySem.W.nsIn K mainGlobals "soonest_by" = some (some (.ref f_soonest_by)))
    (l_soonest_by : K.lookup f_soonest_by = some ⟨oc_soonest_by, od_soonest_by, .func (PySem.W.fnOf "soonest_by" "soonest_by" (defArgs st_soonest_by) (defBody st_soonest_by) (defScope st_soonest_by) .none kV_soonest_by dc_soonest_by pm_soonest_by an_soonest_by cd_soonest_by ct_soonest_by), sl_soonest_by⟩)
    (c_soonest_by : PySem.W.codeIn K cd_soonest_by "soonest_by" = true)
    (k_soonest_by : PySem.W.keepIn K (.ref f_soonest_by) = true)
    (a_soonest : PySem.W.nsIn K mainGlobals "soonest" = some (some (.ref f_soonest)))
    (l_soonest : K.lookup f_soonest = some ⟨oc_soonest, od_soonest, .func (PySem.W.fnOf "soonest" "soonest" (defArgs st_soonest) (defBody st_soonest) (defScope st_soonest) .none kV_soonest dc_soonest pm_soonest an_soonest cd_soonest ct_soonest), sl_soonest⟩)
    (c_soonest : PySem.W.codeIn K cd_soonest "soonest" = true)
    (k_soonest : PySem.W.keepIn K (.ref f_soonest) = true)
    (a_latest_by : PySem.W.nsIn K mainGlobals "latest_by" = some (some (.ref f_latest_by)))
    (l_latest_by : K.lookup f_latest_by = some ⟨oc_latest_by, od_latest_by, .func (PySem.W.fnOf "latest_by" "latest_by" (defArgs st_latest_by) (defBody st_latest_by) (defScope st_latest_by) .none kV_latest_by dc_latest_by pm_latest_by an_latest_by cd_latest_by ct_latest_by), sl_latest_by⟩)
    (c_latest_by : PySem.W.codeIn K cd_latest_by "latest_by" = true)
    (k_latest_by : PySem.W.keepIn K (.ref f_latest_by) = true)
    (a_latest : PySem.W.nsIn K mainGlobals "latest" = some (some (.ref f_latest)))
    (l_latest : K.lookup f_latest = some ⟨oc_latest, od_latest, .func (PySem.W.fnOf "latest" "latest" (defArgs st_latest) (defBody st_latest) (defScope st_latest) .none kV_latest dc_latest pm_latest an_latest cd_latest ct_latest), sl_latest⟩)
    (c_latest : PySem.W.codeIn K cd_latest "latest" = true)
    (k_latest : PySem.W.keepIn K (.ref f_latest) = true)
    (a__law_refusal : PySem.W.nsIn K mainGlobals "_law_refusal" = some (some (.ref f__law_refusal)))
    (l__law_refusal : K.lookup f__law_refusal = some ⟨oc__law_refusal, od__law_refusal, .func (PySem.W.fnOf "_law_refusal" "_law_refusal" (defArgs st__law_refusal) (defBody st__law_refusal) (defScope st__law_refusal) .none kV__law_refusal dc__law_refusal pm__law_refusal an__law_refusal cd__law_refusal ct__law_refusal), sl__law_refusal⟩)
    (c__law_refusal : PySem.W.codeIn K cd__law_refusal "_law_refusal" = true)
    (k__law_refusal : PySem.W.keepIn K (.ref f__law_refusal) = true)
    (a__law_said : PySem.W.nsIn K mainGlobals "_law_said" = some (some (.ref f__law_said)))
    (l__law_said : K.lookup f__law_said = some ⟨oc__law_said, od__law_said, .func (PySem.W.fnOf "_law_said" "_law_said" (defArgs st__law_said) (defBody st__law_said) (defScope st__law_said) .none kV__law_said dc__law_said pm__law_said an__law_said cd__law_said ct__law_said), sl__law_said⟩)
    (c__law_said : PySem.W.codeIn K cd__law_said "_law_said" = true)
    (k__law_said : PySem.W.keepIn K (.ref f__law_said) = true)
    (a__law_alone : PySem.W.nsIn K mainGlobals "_law_alone" = some (some (.ref f__law_alone)))
    (l__law_alone : K.lookup f__law_alone = some ⟨oc__law_alone, od__law_alone, .func (PySem.W.fnOf "_law_alone" "_law_alone" (defArgs st__law_alone) (defBody st__law_alone) (defScope st__law_alone) .none kV__law_alone dc__law_alone pm__law_alone an__law_alone (.ref ca__law_alone) ct__law_alone), sl__law_alone⟩)
    (c__law_alone : PySem.W.codeIn K (.ref ca__law_alone) "_law_alone" = true)
    (cf__law_alone : K.lookup ca__law_alone = some ⟨xa__law_alone, xb__law_alone, .fields vs__law_alone, xc__law_alone⟩)
    (pf__law_alone : vs__law_alone[11]? = some (.ref pa__law_alone))
    (np__law_alone : K.lookup pa__law_alone = none)
    (ch__law_alone : PySem.W.codeHdIn K ca__law_alone pa__law_alone = true)
    (mp__law_alone : pa__law_alone ∈ ts)
    (k__law_alone : PySem.W.keepIn K (.ref f__law_alone) = true)
    (a__law_odd : PySem.W.nsIn K mainGlobals "_law_odd" = some (some (.ref f__law_odd)))
    (l__law_odd : K.lookup f__law_odd = some ⟨oc__law_odd, od__law_odd, .func (PySem.W.fnOf "_law_odd" "_law_odd" (defArgs st__law_odd) (defBody st__law_odd) (defScope st__law_odd) .none kV__law_odd dc__law_odd pm__law_odd an__law_odd cd__law_odd ct__law_odd), sl__law_odd⟩)
    (c__law_odd : PySem.W.codeIn K cd__law_odd "_law_odd" = true)
    (k__law_odd : PySem.W.keepIn K (.ref f__law_odd) = true)
    (a__law_no_books : PySem.W.nsIn K mainGlobals "_law_no_books" = some (some (.ref f__law_no_books)))
    (l__law_no_books : K.lookup f__law_no_books = some ⟨oc__law_no_books, od__law_no_books, .func (PySem.W.fnOf "_law_no_books" "_law_no_books" (defArgs st__law_no_books) (defBody st__law_no_books) (defScope st__law_no_books) .none kV__law_no_books dc__law_no_books pm__law_no_books an__law_no_books cd__law_no_books ct__law_no_books), sl__law_no_books⟩)
    (c__law_no_books : PySem.W.codeIn K cd__law_no_books "_law_no_books" = true)
    (k__law_no_books : PySem.W.keepIn K (.ref f__law_no_books) = true)
    (a_is_less : PySem.W.nsIn K mainGlobals "is_less" = some (some (.ref f_is_less)))
    (l_is_less : K.lookup f_is_less = some ⟨oc_is_less, od_is_less, .func (PySem.W.fnOf "is_less" "is_less" (defArgs st_is_less) (defBody st_is_less) (defScope st_is_less) .none kV_is_less dc_is_less pm_is_less an_is_less cd_is_less ct_is_less), sl_is_less⟩)
    (c_is_less : PySem.W.codeIn K cd_is_less "is_less" = true)
    (k_is_less : PySem.W.keepIn K (.ref f_is_less) = true)
    (a_common : PySem.W.nsIn K mainGlobals "common" = some (some (.ref f_common)))
    (l_common : K.lookup f_common = some ⟨oc_common, od_common, .func (PySem.W.fnOf "common" "common" (defArgs st_common) (defBody st_common) (defScope st_common) .none kV_common dc_common pm_common an_common cd_common ct_common), sl_common⟩)
    (c_common : PySem.W.codeIn K cd_common "common" = true)
    (k_common : PySem.W.keepIn K (.ref f_common) = true)
    (a_put : PySem.W.nsIn K mainGlobals "put" = some (some (.ref f_put)))
    (l_put : K.lookup f_put = some ⟨oc_put, od_put, .func (PySem.W.fnOf "put" "put" (defArgs st_put) (defBody st_put) (defScope st_put) .none kV_put dc_put pm_put an_put cd_put ct_put), sl_put⟩)
    (c_put : PySem.W.codeIn K cd_put "put" = true)
    (k_put : PySem.W.keepIn K (.ref f_put) = true)
    (a_lasting : PySem.W.nsIn K mainGlobals "lasting" = some (some (.ref f_lasting)))
    (l_lasting : K.lookup f_lasting = some ⟨oc_lasting, od_lasting, .func (PySem.W.fnOf "lasting" "lasting" (defArgs st_lasting) (defBody st_lasting) (defScope st_lasting) .none kV_lasting dc_lasting pm_lasting an_lasting cd_lasting ct_lasting), sl_lasting⟩)
    (c_lasting : PySem.W.codeIn K cd_lasting "lasting" = true)
    (k_lasting : PySem.W.keepIn K (.ref f_lasting) = true)
    (a_first_less : PySem.W.nsIn K mainGlobals "first_less" = some (some (.ref f_first_less)))
    (l_first_less : K.lookup f_first_less = some ⟨oc_first_less, od_first_less, .func (PySem.W.fnOf "first_less" "first_less" (defArgs st_first_less) (defBody st_first_less) (defScope st_first_less) .none kV_first_less dc_first_less pm_first_less an_first_less cd_first_less ct_first_less), sl_first_less⟩)
    (c_first_less : PySem.W.codeIn K cd_first_less "first_less" = true)
    (k_first_less : PySem.W.keepIn K (.ref f_first_less) = true)
    (a_may_outlast : PySem.W.nsIn K mainGlobals "may_outlast" = some (some (.ref f_may_outlast)))
    (l_may_outlast : K.lookup f_may_outlast = some ⟨oc_may_outlast, od_may_outlast, .func (PySem.W.fnOf "may_outlast" "may_outlast" (defArgs st_may_outlast) (defBody st_may_outlast) (defScope st_may_outlast) .none kV_may_outlast dc_may_outlast pm_may_outlast an_may_outlast cd_may_outlast ct_may_outlast), sl_may_outlast⟩)
    (c_may_outlast : PySem.W.codeIn K cd_may_outlast "may_outlast" = true)
    (k_may_outlast : PySem.W.keepIn K (.ref f_may_outlast) = true)
    (a_must_outlast : PySem.W.nsIn K mainGlobals "must_outlast" = some (some (.ref f_must_outlast)))
    (l_must_outlast : K.lookup f_must_outlast = some ⟨oc_must_outlast, od_must_outlast, .func (PySem.W.fnOf "must_outlast" "must_outlast" (defArgs st_must_outlast) (defBody st_must_outlast) (defScope st_must_outlast) .none kV_must_outlast dc_must_outlast pm_must_outlast an_must_outlast cd_must_outlast ct_must_outlast), sl_must_outlast⟩)
    (c_must_outlast : PySem.W.codeIn K cd_must_outlast "must_outlast" = true)
    (k_must_outlast : PySem.W.keepIn K (.ref f_must_outlast) = true)
    (a_are_truths : PySem.W.nsIn K mainGlobals "are_truths" = some (some (.ref f_are_truths)))
    (l_are_truths : K.lookup f_are_truths = some ⟨oc_are_truths, od_are_truths, .func (PySem.W.fnOf "are_truths" "are_truths" (defArgs st_are_truths) (defBody st_are_truths) (defScope st_are_truths) .none kV_are_truths dc_are_truths pm_are_truths an_are_truths cd_are_truths ct_are_truths), sl_are_truths⟩)
    (c_are_truths : PySem.W.codeIn K cd_are_truths "are_truths" = true)
    (k_are_truths : PySem.W.keepIn K (.ref f_are_truths) = true)
    (a_shows_may : PySem.W.nsIn K mainGlobals "shows_may" = some (some (.ref f_shows_may)))
    (l_shows_may : K.lookup f_shows_may = some ⟨oc_shows_may, od_shows_may, .func (PySem.W.fnOf "shows_may" "shows_may" (defArgs st_shows_may) (defBody st_shows_may) (defScope st_shows_may) .none kV_shows_may dc_shows_may pm_shows_may an_shows_may cd_shows_may ct_shows_may), sl_shows_may⟩)
    (c_shows_may : PySem.W.codeIn K cd_shows_may "shows_may" = true)
    (k_shows_may : PySem.W.keepIn K (.ref f_shows_may) = true)
    (a_shows_never : PySem.W.nsIn K mainGlobals "shows_never" = some (some (.ref f_shows_never)))
    (l_shows_never : K.lookup f_shows_never = some ⟨oc_shows_never, od_shows_never, .func (PySem.W.fnOf "shows_never" "shows_never" (defArgs st_shows_never) (defBody st_shows_never) (defScope st_shows_never) .none kV_shows_never dc_shows_never pm_shows_never an_shows_never cd_shows_never ct_shows_never), sl_shows_never⟩)
    (c_shows_never : PySem.W.codeIn K cd_shows_never "shows_never" = true)
    (k_shows_never : PySem.W.keepIn K (.ref f_shows_never) = true)
    (a_shows_not : PySem.W.nsIn K mainGlobals "shows_not" = some (some (.ref f_shows_not)))
    (l_shows_not : K.lookup f_shows_not = some ⟨oc_shows_not, od_shows_not, .func (PySem.W.fnOf "shows_not" "shows_not" (defArgs st_shows_not) (defBody st_shows_not) (defScope st_shows_not) .none kV_shows_not dc_shows_not pm_shows_not an_shows_not cd_shows_not ct_shows_not), sl_shows_not⟩)
    (c_shows_not : PySem.W.codeIn K cd_shows_not "shows_not" = true)
    (k_shows_not : PySem.W.keepIn K (.ref f_shows_not) = true)
    (a__law_words : PySem.W.nsIn K mainGlobals "_law_words" = some (some (.ref f__law_words)))
    (l__law_words : K.lookup f__law_words = some ⟨oc__law_words, od__law_words, .func (PySem.W.fnOf "_law_words" "_law_words" (defArgs st__law_words) (defBody st__law_words) (defScope st__law_words) .none kV__law_words dc__law_words pm__law_words an__law_words (.ref ca__law_words) ct__law_words), sl__law_words⟩)
    (c__law_words : PySem.W.codeIn K (.ref ca__law_words) "_law_words" = true)
    (cf__law_words : K.lookup ca__law_words = some ⟨xa__law_words, xb__law_words, .fields vs__law_words, xc__law_words⟩)
    (pf__law_words : vs__law_words[11]? = some (.ref pa__law_words))
    (np__law_words : K.lookup pa__law_words = none)
    (ch__law_words : PySem.W.codeHdIn K ca__law_words pa__law_words = true)
    (mp__law_words : pa__law_words ∈ ts)
    (k__law_words : PySem.W.keepIn K (.ref f__law_words) = true)
    (a__law_whole : PySem.W.nsIn K mainGlobals "_law_whole" = some (some (.ref f__law_whole)))
    (l__law_whole : K.lookup f__law_whole = some ⟨oc__law_whole, od__law_whole, .func (PySem.W.fnOf "_law_whole" "_law_whole" (defArgs st__law_whole) (defBody st__law_whole) (defScope st__law_whole) .none kV__law_whole dc__law_whole pm__law_whole an__law_whole cd__law_whole ct__law_whole), sl__law_whole⟩)
    (c__law_whole : PySem.W.codeIn K cd__law_whole "_law_whole" = true)
    (k__law_whole : PySem.W.keepIn K (.ref f__law_whole) = true)
    (a__law_within : PySem.W.nsIn K mainGlobals "_law_within" = some (some (.ref f__law_within)))
    (l__law_within : K.lookup f__law_within = some ⟨oc__law_within, od__law_within, .func (PySem.W.fnOf "_law_within" "_law_within" (defArgs st__law_within) (defBody st__law_within) (defScope st__law_within) .none kV__law_within dc__law_within pm__law_within an__law_within cd__law_within ct__law_within), sl__law_within⟩)
    (c__law_within : PySem.W.codeIn K cd__law_within "_law_within" = true)
    (k__law_within : PySem.W.keepIn K (.ref f__law_within) = true)
    (a_need_time : PySem.W.nsIn K mainGlobals "need_time" = some (some (.ref f_need_time)))
    (l_need_time : K.lookup f_need_time = some ⟨oc_need_time, od_need_time, .func (PySem.W.fnOf "need_time" "need_time" (defArgs st_need_time) (defBody st_need_time) (defScope st_need_time) .none kV_need_time dc_need_time pm_need_time an_need_time cd_need_time ct_need_time), sl_need_time⟩)
    (c_need_time : PySem.W.codeIn K cd_need_time "need_time" = true)
    (k_need_time : PySem.W.keepIn K (.ref f_need_time) = true)
    (a_bounds : PySem.W.nsIn K mainGlobals "bounds" = some (some (.ref f_bounds)))
    (l_bounds : K.lookup f_bounds = some ⟨oc_bounds, od_bounds, .func (PySem.W.fnOf "bounds" "bounds" (defArgs st_bounds) (defBody st_bounds) (defScope st_bounds) .none kV_bounds dc_bounds pm_bounds an_bounds cd_bounds ct_bounds), sl_bounds⟩)
    (c_bounds : PySem.W.codeIn K cd_bounds "bounds" = true)
    (k_bounds : PySem.W.keepIn K (.ref f_bounds) = true)
    (a_law : PySem.W.nsIn K mainGlobals "law" = some (some (.ref f_law)))
    (l_law : K.lookup f_law = some ⟨oc_law, od_law, .func (PySem.W.fnOf "law" "law" (defArgs st_law) (defBody st_law) (defScope st_law) .none kV_law dc_law pm_law an_law (.ref ca_law) ct_law), sl_law⟩)
    (c_law : PySem.W.codeIn K (.ref ca_law) "law" = true)
    (cf_law : K.lookup ca_law = some ⟨xa_law, xb_law, .fields vs_law, xc_law⟩)
    (pf_law : vs_law[11]? = some (.ref pa_law))
    (np_law : K.lookup pa_law = none)
    (ch_law : PySem.W.codeHdIn K ca_law pa_law = true)
    (mp_law : pa_law ∈ ts)
    (k_law : PySem.W.keepIn K (.ref f_law) = true)
    (z_ValueError : PySem.W.nsIn K mainGlobals "ValueError" = some none)
    (z_abs : PySem.W.nsIn K mainGlobals "abs" = some none)
    (z_all : PySem.W.nsIn K mainGlobals "all" = some none)
    (z_any : PySem.W.nsIn K mainGlobals "any" = some none)
    (z_bool : PySem.W.nsIn K mainGlobals "bool" = some none)
    (z_int : PySem.W.nsIn K mainGlobals "int" = some none)
    (z_isinstance : PySem.W.nsIn K mainGlobals "isinstance" = some none)
    (z_len : PySem.W.nsIn K mainGlobals "len" = some none)
    (z_list : PySem.W.nsIn K mainGlobals "list" = some none)
    (z_max : PySem.W.nsIn K mainGlobals "max" = some none)
    (z_min : PySem.W.nsIn K mainGlobals "min" = some none)
    (z_range : PySem.W.nsIn K mainGlobals "range" = some none)
    (z_repr : PySem.W.nsIn K mainGlobals "repr" = some none)
    (z_sorted : PySem.W.nsIn K mainGlobals "sorted" = some none)
    (z_tuple : PySem.W.nsIn K mainGlobals "tuple" = some none)
    (z_zip : PySem.W.nsIn K mainGlobals "zip" = some none)
    (n_KINDS : PySem.W.nsIn K mainGlobals "KINDS" = some (some (.ref p_KINDS)))
    (m_KINDS : K.lookup p_KINDS = some ⟨.type "tuple", dd_KINDS, .seq #[.int 1 t0_KINDS, .int 2 t1_KINDS, .int 3 t2_KINDS, .int 4 t3_KINDS] nn_KINDS, ss_KINDS⟩)
    (n_LATEST : PySem.W.nsIn K mainGlobals "LATEST" = some (some (.int 2000 t_LATEST)))
    (n_MOST_AGE : PySem.W.nsIn K mainGlobals "MOST_AGE" = some (some (.int 999 t_MOST_AGE)))
    (n_MOST_SPANS : PySem.W.nsIn K mainGlobals "MOST_SPANS" = some (some (.int 40 t_MOST_SPANS)))
    (n_MOST_TIME : PySem.W.nsIn K mainGlobals "MOST_TIME" = some (some (.int 9999 t_MOST_TIME)))
    (g_SpanError : PySem.W.nsIn K mainGlobals "SpanError" = some (some (.ref e_SpanError)))
    (g_NoBook : PySem.W.nsIn K mainGlobals "NoBook" = some (some (.ref e_NoBook)))
    (q_NoBook : PySem.W.keepIn K (.ref e_NoBook) = true)
    (x_NoBook : PySem.W.excIn K e_NoBook veM "ValueError.__new__" = true)
    (b_NoBook : PySem.W.subIn K (.ref e_NoBook) (.type "BaseException") = some true)
    (t_NoBook : PySem.W.typeIn K (.ref e_NoBook) = some (.type "type"))
    (g_NoTime : PySem.W.nsIn K mainGlobals "NoTime" = some (some (.ref e_NoTime)))
    (q_NoTime : PySem.W.keepIn K (.ref e_NoTime) = true)
    (x_NoTime : PySem.W.excIn K e_NoTime veM "ValueError.__new__" = true)
    (b_NoTime : PySem.W.subIn K (.ref e_NoTime) (.type "BaseException") = some true)
    (t_NoTime : PySem.W.typeIn K (.ref e_NoTime) = some (.type "type"))
    (g_NoShare : PySem.W.nsIn K mainGlobals "NoShare" = some (some (.ref e_NoShare)))
    (g_NoParts : PySem.W.nsIn K mainGlobals "NoParts" = some (some (.ref e_NoParts)))
    (g_NoPlain : PySem.W.nsIn K mainGlobals "NoPlain" = some (some (.ref e_NoPlain)))
    (q_NoPlain : PySem.W.keepIn K (.ref e_NoPlain) = true)
    (x_NoPlain : PySem.W.excIn K e_NoPlain veM "ValueError.__new__" = true)
    (b_NoPlain : PySem.W.subIn K (.ref e_NoPlain) (.type "BaseException") = some true)
    (t_NoPlain : PySem.W.typeIn K (.ref e_NoPlain) = some (.type "type"))
    (g_NoKind : PySem.W.nsIn K mainGlobals "NoKind" = some (some (.ref e_NoKind)))
    (g_NoMarks : PySem.W.nsIn K mainGlobals "NoMarks" = some (some (.ref e_NoMarks)))
    (g_NoWord : PySem.W.nsIn K mainGlobals "NoWord" = some (some (.ref e_NoWord)))
    (g_NoFull : PySem.W.nsIn K mainGlobals "NoFull" = some (some (.ref e_NoFull)))
    (g_NoNumber : PySem.W.nsIn K mainGlobals "NoNumber" = some (some (.ref e_NoNumber)))
    (g_NoBand : PySem.W.nsIn K mainGlobals "NoBand" = some (some (.ref e_NoBand)))
    (g_NoName : PySem.W.nsIn K mainGlobals "NoName" = some (some (.ref e_NoName)))
    (g_NoDay : PySem.W.nsIn K mainGlobals "NoDay" = some (some (.ref e_NoDay)))
    (g_NoDeed : PySem.W.nsIn K mainGlobals "NoDeed" = some (some (.ref e_NoDeed)))
    (g_NoFraction : PySem.W.nsIn K mainGlobals "NoFraction" = some (some (.ref e_NoFraction)))
    (g_NoText : PySem.W.nsIn K mainGlobals "NoText" = some (some (.ref e_NoText)))
    (g_NoLine : PySem.W.nsIn K mainGlobals "NoLine" = some (some (.ref e_NoLine)))
    (g_TooMany : PySem.W.nsIn K mainGlobals "TooMany" = some (some (.ref e_TooMany)))
    (xq_NoBook : excCB K e_NoBook = true)
    (xm_NoBook_SpanError : PySem.W.exmOne K (.ref e_NoBook) (.ref e_SpanError) = some true)
    (xi_NoBook_NoBook : PySem.W.kitOne K (.ref e_NoBook) (.ref e_NoBook) = some true)
    (xi_NoBook_NoTime : PySem.W.kitOne K (.ref e_NoBook) (.ref e_NoTime) = some false)
    (xi_NoBook_NoShare : PySem.W.kitOne K (.ref e_NoBook) (.ref e_NoShare) = some false)
    (xi_NoBook_NoParts : PySem.W.kitOne K (.ref e_NoBook) (.ref e_NoParts) = some false)
    (xi_NoBook_NoPlain : PySem.W.kitOne K (.ref e_NoBook) (.ref e_NoPlain) = some false)
    (xi_NoBook_NoKind : PySem.W.kitOne K (.ref e_NoBook) (.ref e_NoKind) = some false)
    (xi_NoBook_NoMarks : PySem.W.kitOne K (.ref e_NoBook) (.ref e_NoMarks) = some false)
    (xi_NoBook_NoWord : PySem.W.kitOne K (.ref e_NoBook) (.ref e_NoWord) = some false)
    (xi_NoBook_NoFull : PySem.W.kitOne K (.ref e_NoBook) (.ref e_NoFull) = some false)
    (xi_NoBook_NoNumber : PySem.W.kitOne K (.ref e_NoBook) (.ref e_NoNumber) = some false)
    (xi_NoBook_NoBand : PySem.W.kitOne K (.ref e_NoBook) (.ref e_NoBand) = some false)
    (xi_NoBook_NoName : PySem.W.kitOne K (.ref e_NoBook) (.ref e_NoName) = some false)
    (xi_NoBook_NoDay : PySem.W.kitOne K (.ref e_NoBook) (.ref e_NoDay) = some false)
    (xi_NoBook_NoDeed : PySem.W.kitOne K (.ref e_NoBook) (.ref e_NoDeed) = some false)
    (xi_NoBook_NoFraction : PySem.W.kitOne K (.ref e_NoBook) (.ref e_NoFraction) = some false)
    (xi_NoBook_NoText : PySem.W.kitOne K (.ref e_NoBook) (.ref e_NoText) = some false)
    (xi_NoBook_NoLine : PySem.W.kitOne K (.ref e_NoBook) (.ref e_NoLine) = some false)
    (xi_NoBook_TooMany : PySem.W.kitOne K (.ref e_NoBook) (.ref e_TooMany) = some false)
    (xi_NoBook_ValueError : PySem.W.kitOne K (.ref e_NoBook) (.type "ValueError") = some true)
    (xq_NoTime : excCB K e_NoTime = true)
    (xm_NoTime_SpanError : PySem.W.exmOne K (.ref e_NoTime) (.ref e_SpanError) = some true)
    (xi_NoTime_NoBook : PySem.W.kitOne K (.ref e_NoTime) (.ref e_NoBook) = some false)
    (xi_NoTime_NoTime : PySem.W.kitOne K (.ref e_NoTime) (.ref e_NoTime) = some true)
    (xi_NoTime_NoShare : PySem.W.kitOne K (.ref e_NoTime) (.ref e_NoShare) = some false)
    (xi_NoTime_NoParts : PySem.W.kitOne K (.ref e_NoTime) (.ref e_NoParts) = some false)
    (xi_NoTime_NoPlain : PySem.W.kitOne K (.ref e_NoTime) (.ref e_NoPlain) = some false)
    (xi_NoTime_NoKind : PySem.W.kitOne K (.ref e_NoTime) (.ref e_NoKind) = some false)
    (xi_NoTime_NoMarks : PySem.W.kitOne K (.ref e_NoTime) (.ref e_NoMarks) = some false)
    (xi_NoTime_NoWord : PySem.W.kitOne K (.ref e_NoTime) (.ref e_NoWord) = some false)
    (xi_NoTime_NoFull : PySem.W.kitOne K (.ref e_NoTime) (.ref e_NoFull) = some false)
    (xi_NoTime_NoNumber : PySem.W.kitOne K (.ref e_NoTime) (.ref e_NoNumber) = some false)
    (xi_NoTime_NoBand : PySem.W.kitOne K (.ref e_NoTime) (.ref e_NoBand) = some false)
    (xi_NoTime_NoName : PySem.W.kitOne K (.ref e_NoTime) (.ref e_NoName) = some false)
    (xi_NoTime_NoDay : PySem.W.kitOne K (.ref e_NoTime) (.ref e_NoDay) = some false)
    (xi_NoTime_NoDeed : PySem.W.kitOne K (.ref e_NoTime) (.ref e_NoDeed) = some false)
    (xi_NoTime_NoFraction : PySem.W.kitOne K (.ref e_NoTime) (.ref e_NoFraction) = some false)
    (xi_NoTime_NoText : PySem.W.kitOne K (.ref e_NoTime) (.ref e_NoText) = some false)
    (xi_NoTime_NoLine : PySem.W.kitOne K (.ref e_NoTime) (.ref e_NoLine) = some false)
    (xi_NoTime_TooMany : PySem.W.kitOne K (.ref e_NoTime) (.ref e_TooMany) = some false)
    (xi_NoTime_ValueError : PySem.W.kitOne K (.ref e_NoTime) (.type "ValueError") = some true)
    (xq_NoPlain : excCB K e_NoPlain = true)
    (xm_NoPlain_SpanError : PySem.W.exmOne K (.ref e_NoPlain) (.ref e_SpanError) = some true)
    (xi_NoPlain_NoBook : PySem.W.kitOne K (.ref e_NoPlain) (.ref e_NoBook) = some false)
    (xi_NoPlain_NoTime : PySem.W.kitOne K (.ref e_NoPlain) (.ref e_NoTime) = some false)
    (xi_NoPlain_NoShare : PySem.W.kitOne K (.ref e_NoPlain) (.ref e_NoShare) = some false)
    (xi_NoPlain_NoParts : PySem.W.kitOne K (.ref e_NoPlain) (.ref e_NoParts) = some false)
    (xi_NoPlain_NoPlain : PySem.W.kitOne K (.ref e_NoPlain) (.ref e_NoPlain) = some true)
    (xi_NoPlain_NoKind : PySem.W.kitOne K (.ref e_NoPlain) (.ref e_NoKind) = some false)
    (xi_NoPlain_NoMarks : PySem.W.kitOne K (.ref e_NoPlain) (.ref e_NoMarks) = some false)
    (xi_NoPlain_NoWord : PySem.W.kitOne K (.ref e_NoPlain) (.ref e_NoWord) = some false)
    (xi_NoPlain_NoFull : PySem.W.kitOne K (.ref e_NoPlain) (.ref e_NoFull) = some false)
    (xi_NoPlain_NoNumber : PySem.W.kitOne K (.ref e_NoPlain) (.ref e_NoNumber) = some false)
    (xi_NoPlain_NoBand : PySem.W.kitOne K (.ref e_NoPlain) (.ref e_NoBand) = some false)
    (xi_NoPlain_NoName : PySem.W.kitOne K (.ref e_NoPlain) (.ref e_NoName) = some false)
    (xi_NoPlain_NoDay : PySem.W.kitOne K (.ref e_NoPlain) (.ref e_NoDay) = some false)
    (xi_NoPlain_NoDeed : PySem.W.kitOne K (.ref e_NoPlain) (.ref e_NoDeed) = some false)
    (xi_NoPlain_NoFraction : PySem.W.kitOne K (.ref e_NoPlain) (.ref e_NoFraction) = some false)
    (xi_NoPlain_NoText : PySem.W.kitOne K (.ref e_NoPlain) (.ref e_NoText) = some false)
    (xi_NoPlain_NoLine : PySem.W.kitOne K (.ref e_NoPlain) (.ref e_NoLine) = some false)
    (xi_NoPlain_TooMany : PySem.W.kitOne K (.ref e_NoPlain) (.ref e_TooMany) = some false)
    (xi_NoPlain_ValueError : PySem.W.kitOne K (.ref e_NoPlain) (.type "ValueError") = some true)
    (u__law_alone__law_words : pa__law_alone ≠ pa__law_words)
    (u__law_alone_law : pa__law_alone ≠ pa_law)
    (u__law_words__law_alone : pa__law_words ≠ pa__law_alone)
    (u__law_words_law : pa__law_words ≠ pa_law)
    (u_law__law_alone : pa_law ≠ pa__law_alone)
    (u_law__law_words : pa_law ≠ pa__law_words)
    : Walked ts P w K mg fa "_law_script" 14 fun sem => sem = sem_law := by
  have e := hfa.symm.trans (PySem.W.mg_of X G a_law)
  cases e
  let T : Tb := ⟨K, w, fun _ => 0, fun i => [e_SpanError, e_NoBook, e_NoTime, e_NoShare, e_NoParts, e_NoPlain, e_NoKind, e_NoMarks, e_NoWord, e_NoFull, e_NoNumber, e_NoBand, e_NoName, e_NoDay, e_NoDeed, e_NoFraction, e_NoText, e_NoLine, e_TooMany].getD i 0, [(pa__law_alone, "_law_alone" ++ ".<locals>." ++ "<lambda>"), (pa__law_words, "_law_words" ++ ".<locals>." ++ "<lambda>"), (pa_law, "law" ++ ".<locals>." ++ "<lambda>")], none, 0, 0⟩
  have F__law_pot := fun_mk (st := st__law_pot) l__law_pot c__law_pot k__law_pot
  have B__law_pot : Binds K _ ["_law_cell"] [] := F__law_pot.binds (ps := ["_law_cell"]) fun _ _ _ _ _ _ us hl => match us, hl with | [_], _ => rfl
  have F__law_take := fun_mk (st := st__law_take) l__law_take c__law_take k__law_take
  have B__law_take : Binds K _ ["_law_pot_here", "_law_far"] [] := F__law_take.binds (ps := ["_law_pot_here", "_law_far"]) fun _ _ _ _ _ _ us hl => match us, hl with | [_, _], _ => rfl
  have F__law_plain := fun_mk (st := st__law_plain) l__law_plain c__law_plain k__law_plain
  have B__law_plain : Binds K _ ["_law_pot_here", "_law_most", "_law_far"] [] := F__law_plain.binds (ps := ["_law_pot_here", "_law_most", "_law_far"]) fun _ _ _ _ _ _ us hl => match us, hl with | [_, _, _], _ => rfl
  have F__law_mixed := fun_mk (st := st__law_mixed) l__law_mixed c__law_mixed k__law_mixed
  have B__law_mixed : Binds K _ ["_law_pot_here", "_law_some"] [] := F__law_mixed.binds (ps := ["_law_pot_here", "_law_some"]) fun _ _ _ _ _ _ us hl => match us, hl with | [_, _], _ => rfl
  have F__law_cell_at := fun_mk (st := st__law_cell_at) l__law_cell_at c__law_cell_at k__law_cell_at
  have B__law_cell_at : Binds K _ ["_law_script", "_law_k"] [] := F__law_cell_at.binds (ps := ["_law_script", "_law_k"]) fun _ _ _ _ _ _ us hl => match us, hl with | [_, _], _ => rfl
  have F_is_whole := fun_mk (st := st_is_whole) l_is_whole c_is_whole k_is_whole
  have B_is_whole : Binds K _ ["thing"] [] := F_is_whole.binds (ps := ["thing"]) fun _ _ _ _ _ _ us hl => match us, hl with | [_], _ => rfl
  have F_is_from_to := fun_mk (st := st_is_from_to) l_is_from_to c_is_from_to k_is_from_to
  have B_is_from_to : Binds K _ ["thing", "low", "high"] [] := F_is_from_to.binds (ps := ["thing", "low", "high"]) fun _ _ _ _ _ _ us hl => match us, hl with | [_, _, _], _ => rfl
  have F_is_lasting := fun_mk (st := st_is_lasting) l_is_lasting c_is_lasting k_is_lasting
  have B_is_lasting : Binds K _ ["thing", "most"] [] := F_is_lasting.binds (ps := ["thing", "most"]) fun _ _ _ _ _ _ us hl => match us, hl with | [_, _], _ => rfl
  have F_is_span := fun_mk (st := st_is_span) l_is_span c_is_span k_is_span
  have B_is_span : Binds K _ ["thing"] [] := F_is_span.binds (ps := ["thing"]) fun _ _ _ _ _ _ us hl => match us, hl with | [_], _ => rfl
  have F_is_book := fun_mk (st := st_is_book) l_is_book c_is_book k_is_book
  have B_is_book : Binds K _ ["thing"] [] := F_is_book.binds (ps := ["thing"]) fun _ _ _ _ _ _ us hl => match us, hl with | [_], _ => rfl
  have F_need_book := fun_mk (st := st_need_book) l_need_book c_need_book k_need_book
  have B_need_book : Binds K _ ["thing"] [] := F_need_book.binds (ps := ["thing"]) fun _ _ _ _ _ _ us hl => match us, hl with | [_], _ => rfl
  have F_need_plain := fun_mk (st := st_need_plain) l_need_plain c_need_plain k_need_plain
  have B_need_plain : Binds K _ ["thing"] [] := F_need_plain.binds (ps := ["thing"]) fun _ _ _ _ _ _ us hl => match us, hl with | [_], _ => rfl
  have F_is_true_of := fun_mk (st := st_is_true_of) l_is_true_of c_is_true_of k_is_true_of
  have B_is_true_of : Binds K _ ["span", "thing"] [] := F_is_true_of.binds (ps := ["span", "thing"]) fun _ _ _ _ _ _ us hl => match us, hl with | [_, _], _ => rfl
  have F_is_truth_by := fun_mk (st := st_is_truth_by) l_is_truth_by c_is_truth_by k_is_truth_by
  have B_is_truth_by : Binds K _ ["book", "thing"] [] := F_is_truth_by.binds (ps := ["book", "thing"]) fun _ _ _ _ _ _ us hl => match us, hl with | [_, _], _ => rfl
  have F_is_truth := fun_mk (st := st_is_truth) l_is_truth c_is_truth k_is_truth
  have B_is_truth : Binds K _ ["book", "thing"] [] := F_is_truth.binds (ps := ["book", "thing"]) fun _ _ _ _ _ _ us hl => match us, hl with | [_, _], _ => rfl
  have F_soonest_by := fun_mk (st := st_soonest_by) l_soonest_by c_soonest_by k_soonest_by
  have B_soonest_by : Binds K _ ["book"] [] := F_soonest_by.binds (ps := ["book"]) fun _ _ _ _ _ _ us hl => match us, hl with | [_], _ => rfl
  have F_soonest := fun_mk (st := st_soonest) l_soonest c_soonest k_soonest
  have B_soonest : Binds K _ ["book"] [] := F_soonest.binds (ps := ["book"]) fun _ _ _ _ _ _ us hl => match us, hl with | [_], _ => rfl
  have F_latest_by := fun_mk (st := st_latest_by) l_latest_by c_latest_by k_latest_by
  have B_latest_by : Binds K _ ["book"] [] := F_latest_by.binds (ps := ["book"]) fun _ _ _ _ _ _ us hl => match us, hl with | [_], _ => rfl
  have F_latest := fun_mk (st := st_latest) l_latest c_latest k_latest
  have B_latest : Binds K _ ["book"] [] := F_latest.binds (ps := ["book"]) fun _ _ _ _ _ _ us hl => match us, hl with | [_], _ => rfl
  have F__law_refusal := fun_mk (st := st__law_refusal) l__law_refusal c__law_refusal k__law_refusal
  have B__law_refusal : Binds K _ ["_law_e"] [] := F__law_refusal.binds (ps := ["_law_e"]) fun _ _ _ _ _ _ us hl => match us, hl with | [_], _ => rfl
  have F__law_said := fun_mk (st := st__law_said) l__law_said c__law_said k__law_said
  have B__law_said : Binds K _ ["_law_call"] [] := F__law_said.binds (ps := ["_law_call"]) fun _ _ _ _ _ _ us hl => match us, hl with | [_], _ => rfl
  have F__law_alone := fun_mk (st := st__law_alone) l__law_alone c__law_alone k__law_alone
  have B__law_alone : Binds K _ ["_law_one", "_law_thing"] [] := F__law_alone.binds (ps := ["_law_one", "_law_thing"]) fun _ _ _ _ _ _ us hl => match us, hl with | [_, _], _ => rfl
  have F__law_odd := fun_mk (st := st__law_odd) l__law_odd c__law_odd k__law_odd
  have B__law_odd : Binds K _ ["_law_pot_here"] [] := F__law_odd.binds (ps := ["_law_pot_here"]) fun _ _ _ _ _ _ us hl => match us, hl with | [_], _ => rfl
  have F__law_no_books := fun_mk (st := st__law_no_books) l__law_no_books c__law_no_books k__law_no_books
  have B__law_no_books : Binds K _ [] [] := F__law_no_books.binds (ps := []) fun _ _ _ _ _ _ us hl => match us, hl with | [], _ => rfl
  have F_is_less := fun_mk (st := st_is_less) l_is_less c_is_less k_is_less
  have B_is_less : Binds K _ ["one", "other"] [] := F_is_less.binds (ps := ["one", "other"]) fun _ _ _ _ _ _ us hl => match us, hl with | [_, _], _ => rfl
  have F_common := fun_mk (st := st_common) l_common c_common k_common
  have B_common : Binds K _ ["one", "other"] [] := F_common.binds (ps := ["one", "other"]) fun _ _ _ _ _ _ us hl => match us, hl with | [_, _], _ => rfl
  have F_put := fun_mk (st := st_put) l_put c_put k_put
  have B_put : Binds K _ ["top", "bottom"] [] := F_put.binds (ps := ["top", "bottom"]) fun _ _ _ _ _ _ us hl => match us, hl with | [_, _], _ => rfl
  have F_lasting := fun_mk (st := st_lasting) l_lasting c_lasting k_lasting
  have B_lasting : Binds K _ ["truth", "time"] [] := F_lasting.binds (ps := ["truth", "time"]) fun _ _ _ _ _ _ us hl => match us, hl with | [_, _], _ => rfl
  have F_first_less := fun_mk (st := st_first_less) l_first_less c_first_less k_first_less
  have B_first_less : Binds K _ ["one", "other"] [] := F_first_less.binds (ps := ["one", "other"]) fun _ _ _ _ _ _ us hl => match us, hl with | [_, _], _ => rfl
  have F_may_outlast := fun_mk (st := st_may_outlast) l_may_outlast c_may_outlast k_may_outlast
  have B_may_outlast : Binds K _ ["one", "other"] [] := F_may_outlast.binds (ps := ["one", "other"]) fun _ _ _ _ _ _ us hl => match us, hl with | [_, _], _ => rfl
  have F_must_outlast := fun_mk (st := st_must_outlast) l_must_outlast c_must_outlast k_must_outlast
  have B_must_outlast : Binds K _ ["one", "other"] [] := F_must_outlast.binds (ps := ["one", "other"]) fun _ _ _ _ _ _ us hl => match us, hl with | [_, _], _ => rfl
  have F_are_truths := fun_mk (st := st_are_truths) l_are_truths c_are_truths k_are_truths
  have B_are_truths : Binds K _ ["one", "other", "thing"] [] := F_are_truths.binds (ps := ["one", "other", "thing"]) fun _ _ _ _ _ _ us hl => match us, hl with | [_, _, _], _ => rfl
  have F_shows_may := fun_mk (st := st_shows_may) l_shows_may c_shows_may k_shows_may
  have B_shows_may : Binds K _ ["one", "other", "thing"] [] := F_shows_may.binds (ps := ["one", "other", "thing"]) fun _ _ _ _ _ _ us hl => match us, hl with | [_, _, _], _ => rfl
  have F_shows_never := fun_mk (st := st_shows_never) l_shows_never c_shows_never k_shows_never
  have B_shows_never : Binds K _ ["one", "other", "thing"] [] := F_shows_never.binds (ps := ["one", "other", "thing"]) fun _ _ _ _ _ _ us hl => match us, hl with | [_, _, _], _ => rfl
  have F_shows_not := fun_mk (st := st_shows_not) l_shows_not c_shows_not k_shows_not
  have B_shows_not : Binds K _ ["one", "other", "thing"] [] := F_shows_not.binds (ps := ["one", "other", "thing"]) fun _ _ _ _ _ _ us hl => match us, hl with | [_, _, _], _ => rfl
  have F__law_words := fun_mk (st := st__law_words) l__law_words c__law_words k__law_words
  have B__law_words : Binds K _ ["_law_one", "_law_other"] [] := F__law_words.binds (ps := ["_law_one", "_law_other"]) fun _ _ _ _ _ _ us hl => match us, hl with | [_, _], _ => rfl
  have F__law_whole := fun_mk (st := st__law_whole) l__law_whole c__law_whole k__law_whole
  have B__law_whole : Binds K _ ["_law_thing"] [] := F__law_whole.binds (ps := ["_law_thing"]) fun _ _ _ _ _ _ us hl => match us, hl with | [_], _ => rfl
  have F__law_within := fun_mk (st := st__law_within) l__law_within c__law_within k__law_within
  have B__law_within : Binds K _ ["_law_thing", "_law_low", "_law_high"] [] := F__law_within.binds (ps := ["_law_thing", "_law_low", "_law_high"]) fun _ _ _ _ _ _ us hl => match us, hl with | [_, _, _], _ => rfl
  have F_need_time := fun_mk (st := st_need_time) l_need_time c_need_time k_need_time
  have B_need_time : Binds K _ ["thing"] [] := F_need_time.binds (ps := ["thing"]) fun _ _ _ _ _ _ us hl => match us, hl with | [_], _ => rfl
  have F_bounds := fun_mk (st := st_bounds) l_bounds c_bounds k_bounds
  have B_bounds : Binds K _ ["book", "time"] [] := F_bounds.binds (ps := ["book", "time"]) fun _ _ _ _ _ _ us hl => match us, hl with | [_, _], _ => rfl
  have F_law := fun_mk (st := st_law) l_law c_law k_law
  have g : Gv mg T := ⟨PySem.W.mg_none_of X G z_ValueError,
    PySem.W.mg_none_of X G z_abs,
    PySem.W.mg_none_of X G z_all,
    PySem.W.mg_none_of X G z_any,
    PySem.W.mg_none_of X G z_bool,
    PySem.W.mg_none_of X G z_int,
    PySem.W.mg_none_of X G z_isinstance,
    PySem.W.mg_none_of X G z_len,
    PySem.W.mg_none_of X G z_list,
    PySem.W.mg_none_of X G z_max,
    PySem.W.mg_none_of X G z_min,
    PySem.W.mg_none_of X G z_range,
    PySem.W.mg_none_of X G z_repr,
    PySem.W.mg_none_of X G z_sorted,
    PySem.W.mg_none_of X G z_tuple,
    PySem.W.mg_none_of X G z_zip,
    ⟨_, .ref p_KINDS, PySem.W.mg_of X G n_KINDS, rfl, fun _ _ => .tup (xs := [(.int (1)), (.int (2)), (.int (3)), (.int (4))]) (.inr ⟨_, _, _, m_KINDS, rfl, rfl, Nat.le_of_ble_eq_true rfl, (.cons (show L2.RelV (.int (1)) _ from ⟨_, rfl⟩) (.cons (show L2.RelV (.int (2)) _ from ⟨_, rfl⟩) (.cons (show L2.RelV (.int (3)) _ from ⟨_, rfl⟩) (.cons (show L2.RelV (.int (4)) _ from ⟨_, rfl⟩) .nil))))⟩) (.cons (.int _) (.cons (.int _) (.cons (.int _) (.cons (.int _) .nil))))⟩,
    ⟨_, .int 2000, PySem.W.mg_of X G n_LATEST, ⟨_, rfl⟩, fun _ _ => .int _⟩,
    ⟨_, .int 999, PySem.W.mg_of X G n_MOST_AGE, ⟨_, rfl⟩, fun _ _ => .int _⟩,
    ⟨_, .int 40, PySem.W.mg_of X G n_MOST_SPANS, ⟨_, rfl⟩, fun _ _ => .int _⟩,
    ⟨_, .int 9999, PySem.W.mg_of X G n_MOST_TIME, ⟨_, rfl⟩, fun _ _ => .int _⟩,
    PySem.W.mg_of X G g_SpanError,
    ⟨PySem.W.mg_of X G g_NoBook, q_NoBook, x_NoBook, b_NoBook, t_NoBook⟩,
    ⟨PySem.W.mg_of X G g_NoTime, q_NoTime, x_NoTime, b_NoTime, t_NoTime⟩,
    PySem.W.mg_of X G g_NoShare,
    PySem.W.mg_of X G g_NoParts,
    ⟨PySem.W.mg_of X G g_NoPlain, q_NoPlain, x_NoPlain, b_NoPlain, t_NoPlain⟩,
    PySem.W.mg_of X G g_NoKind,
    PySem.W.mg_of X G g_NoMarks,
    PySem.W.mg_of X G g_NoWord,
    PySem.W.mg_of X G g_NoFull,
    PySem.W.mg_of X G g_NoNumber,
    PySem.W.mg_of X G g_NoBand,
    PySem.W.mg_of X G g_NoName,
    PySem.W.mg_of X G g_NoDay,
    PySem.W.mg_of X G g_NoDeed,
    PySem.W.mg_of X G g_NoFraction,
    PySem.W.mg_of X G g_NoText,
    PySem.W.mg_of X G g_NoLine,
    PySem.W.mg_of X G g_TooMany,
    mt_l (List.forall_mem_cons.mpr ⟨xm_NoBook_SpanError, (List.forall_mem_cons.mpr ⟨xm_NoTime_SpanError, (List.forall_mem_cons.mpr ⟨xm_NoPlain_SpanError, (fun _ h => absurd h List.not_mem_nil)⟩)⟩)⟩),
    isTb_l (List.forall_mem_cons.mpr ⟨⟨xq_NoBook, xi_NoBook_NoBook⟩, (List.forall_mem_cons.mpr ⟨⟨xq_NoTime, xi_NoTime_NoBook⟩, (List.forall_mem_cons.mpr ⟨⟨xq_NoPlain, xi_NoPlain_NoBook⟩, (fun _ h => absurd h List.not_mem_nil)⟩)⟩)⟩),
    isTb_l (List.forall_mem_cons.mpr ⟨⟨xq_NoBook, xi_NoBook_NoTime⟩, (List.forall_mem_cons.mpr ⟨⟨xq_NoTime, xi_NoTime_NoTime⟩, (List.forall_mem_cons.mpr ⟨⟨xq_NoPlain, xi_NoPlain_NoTime⟩, (fun _ h => absurd h List.not_mem_nil)⟩)⟩)⟩),
    isTb_l (List.forall_mem_cons.mpr ⟨⟨xq_NoBook, xi_NoBook_NoShare⟩, (List.forall_mem_cons.mpr ⟨⟨xq_NoTime, xi_NoTime_NoShare⟩, (List.forall_mem_cons.mpr ⟨⟨xq_NoPlain, xi_NoPlain_NoShare⟩, (fun _ h => absurd h List.not_mem_nil)⟩)⟩)⟩),
    isTb_l (List.forall_mem_cons.mpr ⟨⟨xq_NoBook, xi_NoBook_NoParts⟩, (List.forall_mem_cons.mpr ⟨⟨xq_NoTime, xi_NoTime_NoParts⟩, (List.forall_mem_cons.mpr ⟨⟨xq_NoPlain, xi_NoPlain_NoParts⟩, (fun _ h => absurd h List.not_mem_nil)⟩)⟩)⟩),
    isTb_l (List.forall_mem_cons.mpr ⟨⟨xq_NoBook, xi_NoBook_NoPlain⟩, (List.forall_mem_cons.mpr ⟨⟨xq_NoTime, xi_NoTime_NoPlain⟩, (List.forall_mem_cons.mpr ⟨⟨xq_NoPlain, xi_NoPlain_NoPlain⟩, (fun _ h => absurd h List.not_mem_nil)⟩)⟩)⟩),
    isTb_l (List.forall_mem_cons.mpr ⟨⟨xq_NoBook, xi_NoBook_NoKind⟩, (List.forall_mem_cons.mpr ⟨⟨xq_NoTime, xi_NoTime_NoKind⟩, (List.forall_mem_cons.mpr ⟨⟨xq_NoPlain, xi_NoPlain_NoKind⟩, (fun _ h => absurd h List.not_mem_nil)⟩)⟩)⟩),
    isTb_l (List.forall_mem_cons.mpr ⟨⟨xq_NoBook, xi_NoBook_NoMarks⟩, (List.forall_mem_cons.mpr ⟨⟨xq_NoTime, xi_NoTime_NoMarks⟩, (List.forall_mem_cons.mpr ⟨⟨xq_NoPlain, xi_NoPlain_NoMarks⟩, (fun _ h => absurd h List.not_mem_nil)⟩)⟩)⟩),
    isTb_l (List.forall_mem_cons.mpr ⟨⟨xq_NoBook, xi_NoBook_NoWord⟩, (List.forall_mem_cons.mpr ⟨⟨xq_NoTime, xi_NoTime_NoWord⟩, (List.forall_mem_cons.mpr ⟨⟨xq_NoPlain, xi_NoPlain_NoWord⟩, (fun _ h => absurd h List.not_mem_nil)⟩)⟩)⟩),
    isTb_l (List.forall_mem_cons.mpr ⟨⟨xq_NoBook, xi_NoBook_NoFull⟩, (List.forall_mem_cons.mpr ⟨⟨xq_NoTime, xi_NoTime_NoFull⟩, (List.forall_mem_cons.mpr ⟨⟨xq_NoPlain, xi_NoPlain_NoFull⟩, (fun _ h => absurd h List.not_mem_nil)⟩)⟩)⟩),
    isTb_l (List.forall_mem_cons.mpr ⟨⟨xq_NoBook, xi_NoBook_NoNumber⟩, (List.forall_mem_cons.mpr ⟨⟨xq_NoTime, xi_NoTime_NoNumber⟩, (List.forall_mem_cons.mpr ⟨⟨xq_NoPlain, xi_NoPlain_NoNumber⟩, (fun _ h => absurd h List.not_mem_nil)⟩)⟩)⟩),
    isTb_l (List.forall_mem_cons.mpr ⟨⟨xq_NoBook, xi_NoBook_NoBand⟩, (List.forall_mem_cons.mpr ⟨⟨xq_NoTime, xi_NoTime_NoBand⟩, (List.forall_mem_cons.mpr ⟨⟨xq_NoPlain, xi_NoPlain_NoBand⟩, (fun _ h => absurd h List.not_mem_nil)⟩)⟩)⟩),
    isTb_l (List.forall_mem_cons.mpr ⟨⟨xq_NoBook, xi_NoBook_NoName⟩, (List.forall_mem_cons.mpr ⟨⟨xq_NoTime, xi_NoTime_NoName⟩, (List.forall_mem_cons.mpr ⟨⟨xq_NoPlain, xi_NoPlain_NoName⟩, (fun _ h => absurd h List.not_mem_nil)⟩)⟩)⟩),
    isTb_l (List.forall_mem_cons.mpr ⟨⟨xq_NoBook, xi_NoBook_NoDay⟩, (List.forall_mem_cons.mpr ⟨⟨xq_NoTime, xi_NoTime_NoDay⟩, (List.forall_mem_cons.mpr ⟨⟨xq_NoPlain, xi_NoPlain_NoDay⟩, (fun _ h => absurd h List.not_mem_nil)⟩)⟩)⟩),
    isTb_l (List.forall_mem_cons.mpr ⟨⟨xq_NoBook, xi_NoBook_NoDeed⟩, (List.forall_mem_cons.mpr ⟨⟨xq_NoTime, xi_NoTime_NoDeed⟩, (List.forall_mem_cons.mpr ⟨⟨xq_NoPlain, xi_NoPlain_NoDeed⟩, (fun _ h => absurd h List.not_mem_nil)⟩)⟩)⟩),
    isTb_l (List.forall_mem_cons.mpr ⟨⟨xq_NoBook, xi_NoBook_NoFraction⟩, (List.forall_mem_cons.mpr ⟨⟨xq_NoTime, xi_NoTime_NoFraction⟩, (List.forall_mem_cons.mpr ⟨⟨xq_NoPlain, xi_NoPlain_NoFraction⟩, (fun _ h => absurd h List.not_mem_nil)⟩)⟩)⟩),
    isTb_l (List.forall_mem_cons.mpr ⟨⟨xq_NoBook, xi_NoBook_NoText⟩, (List.forall_mem_cons.mpr ⟨⟨xq_NoTime, xi_NoTime_NoText⟩, (List.forall_mem_cons.mpr ⟨⟨xq_NoPlain, xi_NoPlain_NoText⟩, (fun _ h => absurd h List.not_mem_nil)⟩)⟩)⟩),
    isTb_l (List.forall_mem_cons.mpr ⟨⟨xq_NoBook, xi_NoBook_NoLine⟩, (List.forall_mem_cons.mpr ⟨⟨xq_NoTime, xi_NoTime_NoLine⟩, (List.forall_mem_cons.mpr ⟨⟨xq_NoPlain, xi_NoPlain_NoLine⟩, (fun _ h => absurd h List.not_mem_nil)⟩)⟩)⟩),
    isTb_l (List.forall_mem_cons.mpr ⟨⟨xq_NoBook, xi_NoBook_TooMany⟩, (List.forall_mem_cons.mpr ⟨⟨xq_NoTime, xi_NoTime_TooMany⟩, (List.forall_mem_cons.mpr ⟨⟨xq_NoPlain, xi_NoPlain_TooMany⟩, (fun _ h => absurd h List.not_mem_nil)⟩)⟩)⟩),
    isTb_l (List.forall_mem_cons.mpr ⟨⟨xq_NoBook, xi_NoBook_ValueError⟩, (List.forall_mem_cons.mpr ⟨⟨xq_NoTime, xi_NoTime_ValueError⟩, (List.forall_mem_cons.mpr ⟨⟨xq_NoPlain, xi_NoPlain_ValueError⟩, (fun _ h => absurd h List.not_mem_nil)⟩)⟩)⟩)⟩
  refine ⟨?fd, T, sem_law, [(ca__law_alone, pa__law_alone), (ca__law_words, pa__law_words), (ca_law, pa_law)], rfl, rfl, ?bd, ⟨(List.forall_mem_cons.mpr ⟨⟨ch__law_alone, mp__law_alone, np__law_alone⟩, (List.forall_mem_cons.mpr ⟨⟨ch__law_words, mp__law_words, np__law_words⟩, (List.forall_mem_cons.mpr ⟨⟨ch_law, mp_law, np_law⟩, (fun _ h => absurd h List.not_mem_nil)⟩)⟩)⟩), (List.forall_mem_cons.mpr ⟨⟨_, .head _, rfl⟩, (List.forall_mem_cons.mpr ⟨⟨_, .tail _ (.head _), rfl⟩, (List.forall_mem_cons.mpr ⟨⟨_, .tail _ (.tail _ (.head _)), rfl⟩, (fun _ h => absurd h List.not_mem_nil)⟩)⟩)⟩)⟩, fun base _ _ sm tbs => ?mn, rfl⟩
  rotate_left 2
  have TB__law_alone : LamX.TabB base mg ca__law_alone pa__law_alone := tbs (ca__law_alone, pa__law_alone) (.head _)
  have TB__law_words : LamX.TabB base mg ca__law_words pa__law_words := tbs (ca__law_words, pa__law_words) (.tail _ (.head _))
  have TB_law : LamX.TabB base mg ca_law pa_law := tbs (ca_law, pa_law) (.tail _ (.tail _ (.head _)))
  have E__law_pot : FnE P w mg base T "_law_pot" 1 1 sem__law_pot := fn_e F__law_pot sc__law_pot rfl (PySem.W.mg_of X G a__law_pot) B__law_pot rfl sm fun X1 W1 H1 e1 e2 e3 e4 a1 k1 f1 c1 => by
    subst e1 e2 e3 e4
    exact b__law_pot a1 k1 f1 c1 g
  have E__law_take : FnE P w mg base T "_law_take" 1 2 sem__law_take := fn_e F__law_take sc__law_take rfl (PySem.W.mg_of X G a__law_take) B__law_take rfl sm fun X1 W1 H1 e1 e2 e3 e4 a1 k1 f1 c1 => by
    subst e1 e2 e3 e4
    exact b__law_take a1 k1 f1 c1 g
  have E__law_plain : FnE P w mg base T "_law_plain" 2 3 sem__law_plain := fn_e F__law_plain sc__law_plain rfl (PySem.W.mg_of X G a__law_plain) B__law_plain rfl sm fun X1 W1 H1 e1 e2 e3 e4 a1 k1 f1 c1 => by
    subst e1 e2 e3 e4
    exact b__law_plain a1 k1 f1 c1 g E__law_take
  have E__law_mixed : FnE P w mg base T "_law_mixed" 2 2 sem__law_mixed := fn_e F__law_mixed sc__law_mixed rfl (PySem.W.mg_of X G a__law_mixed) B__law_mixed rfl sm fun X1 W1 H1 e1 e2 e3 e4 a1 k1 f1 c1 => by
    subst e1 e2 e3 e4
    exact b__law_mixed a1 k1 f1 c1 g E__law_take
  have E__law_cell_at : FnE P w mg base T "_law_cell_at" 1 2 sem__law_cell_at := fn_e F__law_cell_at sc__law_cell_at rfl (PySem.W.mg_of X G a__law_cell_at) B__law_cell_at rfl sm fun X1 W1 H1 e1 e2 e3 e4 a1 k1 f1 c1 => by
    subst e1 e2 e3 e4
    exact b__law_cell_at a1 k1 f1 c1 g
  have E_is_whole : FnE P w mg base T "is_whole" 1 1 sem_is_whole := fn_e F_is_whole sc_is_whole rfl (PySem.W.mg_of X G a_is_whole) B_is_whole rfl sm fun X1 W1 H1 e1 e2 e3 e4 a1 k1 f1 c1 => by
    subst e1 e2 e3 e4
    exact b_is_whole a1 k1 f1 c1 g
  have E_is_from_to : FnE P w mg base T "is_from_to" 2 3 sem_is_from_to := fn_e F_is_from_to sc_is_from_to rfl (PySem.W.mg_of X G a_is_from_to) B_is_from_to rfl sm fun X1 W1 H1 e1 e2 e3 e4 a1 k1 f1 c1 => by
    subst e1 e2 e3 e4
    exact b_is_from_to a1 k1 f1 c1 g E_is_whole
  have E_is_lasting : FnE P w mg base T "is_lasting" 3 2 sem_is_lasting := fn_e F_is_lasting sc_is_lasting rfl (PySem.W.mg_of X G a_is_lasting) B_is_lasting rfl sm fun X1 W1 H1 e1 e2 e3 e4 a1 k1 f1 c1 => by
    subst e1 e2 e3 e4
    exact b_is_lasting a1 k1 f1 c1 g E_is_from_to
  have E_is_span : FnE P w mg base T "is_span" 4 1 sem_is_span := fn_e F_is_span sc_is_span rfl (PySem.W.mg_of X G a_is_span) B_is_span rfl sm fun X1 W1 H1 e1 e2 e3 e4 a1 k1 f1 c1 => by
    subst e1 e2 e3 e4
    exact b_is_span a1 k1 f1 c1 g E_is_lasting
  have E_is_book : FnE P w mg base T "is_book" 5 1 sem_is_book := fn_e F_is_book sc_is_book rfl (PySem.W.mg_of X G a_is_book) B_is_book rfl sm fun X1 W1 H1 e1 e2 e3 e4 a1 k1 f1 c1 => by
    subst e1 e2 e3 e4
    exact b_is_book a1 k1 f1 c1 g E_is_span
  have E_need_book : FnE P w mg base T "need_book" 6 1 sem_need_book := fn_e F_need_book sc_need_book rfl (PySem.W.mg_of X G a_need_book) B_need_book rfl sm fun X1 W1 H1 e1 e2 e3 e4 a1 k1 f1 c1 => by
    subst e1 e2 e3 e4
    exact b_need_book a1 k1 f1 c1 g E_is_book
  have E_need_plain : FnE P w mg base T "need_plain" 7 1 sem_need_plain := fn_e F_need_plain sc_need_plain rfl (PySem.W.mg_of X G a_need_plain) B_need_plain rfl sm fun X1 W1 H1 e1 e2 e3 e4 a1 k1 f1 c1 => by
    subst e1 e2 e3 e4
    exact b_need_plain a1 k1 f1 c1 g E_need_book
  have E_is_true_of : FnE P w mg base T "is_true_of" 4 2 sem_is_true_of := fn_e F_is_true_of sc_is_true_of rfl (PySem.W.mg_of X G a_is_true_of) B_is_true_of rfl sm fun X1 W1 H1 e1 e2 e3 e4 a1 k1 f1 c1 => by
    subst e1 e2 e3 e4
    exact b_is_true_of a1 k1 f1 c1 g E_is_lasting
  have E_is_truth_by : FnE P w mg base T "is_truth_by" 5 2 sem_is_truth_by := fn_e F_is_truth_by sc_is_truth_by rfl (PySem.W.mg_of X G a_is_truth_by) B_is_truth_by rfl sm fun X1 W1 H1 e1 e2 e3 e4 a1 k1 f1 c1 => by
    subst e1 e2 e3 e4
    exact b_is_truth_by a1 k1 f1 c1 g E_is_true_of
  have E_is_truth : FnE P w mg base T "is_truth" 8 2 sem_is_truth := fn_e F_is_truth sc_is_truth rfl (PySem.W.mg_of X G a_is_truth) B_is_truth rfl sm fun X1 W1 H1 e1 e2 e3 e4 a1 k1 f1 c1 => by
    subst e1 e2 e3 e4
    exact b_is_truth a1 k1 f1 c1 g E_need_plain E_is_truth_by
  have E_soonest_by : FnE P w mg base T "soonest_by" 1 1 sem_soonest_by := fn_e F_soonest_by sc_soonest_by rfl (PySem.W.mg_of X G a_soonest_by) B_soonest_by rfl sm fun X1 W1 H1 e1 e2 e3 e4 a1 k1 f1 c1 => by
    subst e1 e2 e3 e4
    exact b_soonest_by a1 k1 f1 c1 g
  have E_soonest : FnE P w mg base T "soonest" 8 1 sem_soonest := fn_e F_soonest sc_soonest rfl (PySem.W.mg_of X G a_soonest) B_soonest rfl sm fun X1 W1 H1 e1 e2 e3 e4 a1 k1 f1 c1 => by
    subst e1 e2 e3 e4
    exact b_soonest a1 k1 f1 c1 g E_need_plain E_soonest_by
  have E_latest_by : FnE P w mg base T "latest_by" 1 1 sem_latest_by := fn_e F_latest_by sc_latest_by rfl (PySem.W.mg_of X G a_latest_by) B_latest_by rfl sm fun X1 W1 H1 e1 e2 e3 e4 a1 k1 f1 c1 => by
    subst e1 e2 e3 e4
    exact b_latest_by a1 k1 f1 c1 g
  have E_latest : FnE P w mg base T "latest" 8 1 sem_latest := fn_e F_latest sc_latest rfl (PySem.W.mg_of X G a_latest) B_latest rfl sm fun X1 W1 H1 e1 e2 e3 e4 a1 k1 f1 c1 => by
    subst e1 e2 e3 e4
    exact b_latest a1 k1 f1 c1 g E_need_plain E_latest_by
  have E__law_refusal : FnX P w mg base T "_law_refusal" 1 1 sem__law_refusal := fn_x F__law_refusal sc__law_refusal rfl (PySem.W.mg_of X G a__law_refusal) B__law_refusal rfl sm fun X1 W1 H1 A1 c1 d1 e1 e2 e3 e4 a1 k1 f1 cc1 => by
    subst e1 e2 e3 e4
    exact b__law_refusal a1 k1 f1 cc1 g
  have E__law_said : SaidE P w mg base T "_law_said" 1 mt_SpanError wd__law_said := said_e (i := 1) F__law_said sc__law_said (PySem.W.mg_of X G a__law_said) B__law_said (by decide +kernel) g.x_SpanError g.m_SpanError rfl fun X1 W1 H1 A1 c1 d1 e1 e2 e3 e4 a1 k1 f1 cc1 => by
    subst e1 e2 e3 e4
    exact b__law_said a1 k1 f1 cc1 g E__law_refusal
  have E__law_alone : FnE P w mg base T "_law_alone" 11 2 sem__law_alone := fn_eR F__law_alone sc__law_alone rfl (PySem.W.mg_of X G a__law_alone) B__law_alone rfl sm fun X1 W1 H1 e1 e2 e3 e4 a1 k1 f1 c1 r1 => by
    subst e1 e2 e3 e4
    exact b__law_alone (LamC.of r1 TB__law_alone (.head _) (List.forall_mem_cons.mpr ⟨fun _ => rfl, (List.forall_mem_cons.mpr ⟨fun z => absurd z u__law_words__law_alone, (List.forall_mem_cons.mpr ⟨fun z => absurd z u_law__law_alone, (fun _ h => absurd h List.not_mem_nil)⟩)⟩)⟩)) rfl a1 k1 f1 c1 g E__law_said E_is_truth E_soonest E_latest
  have E__law_odd : FnE P w mg base T "_law_odd" 2 1 sem__law_odd := fn_e F__law_odd sc__law_odd rfl (PySem.W.mg_of X G a__law_odd) B__law_odd rfl sm fun X1 W1 H1 e1 e2 e3 e4 a1 k1 f1 c1 => by
    subst e1 e2 e3 e4
    exact b__law_odd a1 k1 f1 c1 g E__law_take
  have E__law_no_books : FnE P w mg base T "_law_no_books" 1 0 sem__law_no_books := fn_e F__law_no_books sc__law_no_books rfl (PySem.W.mg_of X G a__law_no_books) B__law_no_books rfl sm fun X1 W1 H1 e1 e2 e3 e4 a1 k1 f1 c1 => by
    subst e1 e2 e3 e4
    exact b__law_no_books a1 k1 f1 c1 g
  have E_is_less : FnE P w mg base T "is_less" 1 2 sem_is_less := fn_e F_is_less sc_is_less rfl (PySem.W.mg_of X G a_is_less) B_is_less rfl sm fun X1 W1 H1 e1 e2 e3 e4 a1 k1 f1 c1 => by
    subst e1 e2 e3 e4
    exact b_is_less a1 k1 f1 c1 g
  have E_common : FnE P w mg base T "common" 1 2 sem_common := fn_e F_common sc_common rfl (PySem.W.mg_of X G a_common) B_common rfl sm fun X1 W1 H1 e1 e2 e3 e4 a1 k1 f1 c1 => by
    subst e1 e2 e3 e4
    exact b_common a1 k1 f1 c1 g
  have E_put : FnE P w mg base T "put" 2 2 sem_put := fn_e F_put sc_put rfl (PySem.W.mg_of X G a_put) B_put rfl sm fun X1 W1 H1 e1 e2 e3 e4 a1 k1 f1 c1 => by
    subst e1 e2 e3 e4
    exact b_put a1 k1 f1 c1 g E_common
  have E_lasting : FnE P w mg base T "lasting" 3 2 sem_lasting := fn_e F_lasting sc_lasting rfl (PySem.W.mg_of X G a_lasting) B_lasting rfl sm fun X1 W1 H1 e1 e2 e3 e4 a1 k1 f1 c1 => by
    subst e1 e2 e3 e4
    exact b_lasting a1 k1 f1 c1 g E_put
  have E_first_less : FnE P w mg base T "first_less" 4 2 sem_first_less := fn_e F_first_less sc_first_less rfl (PySem.W.mg_of X G a_first_less) B_first_less rfl sm fun X1 W1 H1 e1 e2 e3 e4 a1 k1 f1 c1 => by
    subst e1 e2 e3 e4
    exact b_first_less a1 k1 f1 c1 g E_is_less E_lasting
  have E_may_outlast : FnE P w mg base T "may_outlast" 8 2 sem_may_outlast := fn_e F_may_outlast sc_may_outlast rfl (PySem.W.mg_of X G a_may_outlast) B_may_outlast rfl sm fun X1 W1 H1 e1 e2 e3 e4 a1 k1 f1 c1 => by
    subst e1 e2 e3 e4
    exact b_may_outlast a1 k1 f1 c1 g E_need_plain E_first_less E_latest_by E_soonest_by
  have E_must_outlast : FnE P w mg base T "must_outlast" 8 2 sem_must_outlast := fn_e F_must_outlast sc_must_outlast rfl (PySem.W.mg_of X G a_must_outlast) B_must_outlast rfl sm fun X1 W1 H1 e1 e2 e3 e4 a1 k1 f1 c1 => by
    subst e1 e2 e3 e4
    exact b_must_outlast a1 k1 f1 c1 g E_need_plain E_first_less E_soonest_by E_latest_by
  have E_are_truths : FnE P w mg base T "are_truths" 6 3 sem_are_truths := fn_e F_are_truths sc_are_truths rfl (PySem.W.mg_of X G a_are_truths) B_are_truths rfl sm fun X1 W1 H1 e1 e2 e3 e4 a1 k1 f1 c1 => by
    subst e1 e2 e3 e4
    exact b_are_truths a1 k1 f1 c1 g E_is_truth_by
  have E_shows_may : FnE P w mg base T "shows_may" 8 3 sem_shows_may := fn_e F_shows_may sc_shows_may rfl (PySem.W.mg_of X G a_shows_may) B_shows_may rfl sm fun X1 W1 H1 e1 e2 e3 e4 a1 k1 f1 c1 => by
    subst e1 e2 e3 e4
    exact b_shows_may a1 k1 f1 c1 g E_need_plain E_are_truths E_first_less
  have E_shows_never : FnE P w mg base T "shows_never" 8 3 sem_shows_never := fn_e F_shows_never sc_shows_never rfl (PySem.W.mg_of X G a_shows_never) B_shows_never rfl sm fun X1 W1 H1 e1 e2 e3 e4 a1 k1 f1 c1 => by
    subst e1 e2 e3 e4
    exact b_shows_never a1 k1 f1 c1 g E_need_plain E_is_less E_is_from_to E_lasting E_latest_by E_soonest_by
  have E_shows_not : FnE P w mg base T "shows_not" 8 3 sem_shows_not := fn_e F_shows_not sc_shows_not rfl (PySem.W.mg_of X G a_shows_not) B_shows_not rfl sm fun X1 W1 H1 e1 e2 e3 e4 a1 k1 f1 c1 => by
    subst e1 e2 e3 e4
    exact b_shows_not a1 k1 f1 c1 g E_need_plain E_are_truths E_first_less
  have E__law_words : FnE P w mg base T "_law_words" 11 2 sem__law_words := fn_eR F__law_words sc__law_words rfl (PySem.W.mg_of X G a__law_words) B__law_words rfl sm fun X1 W1 H1 e1 e2 e3 e4 a1 k1 f1 c1 r1 => by
    subst e1 e2 e3 e4
    exact b__law_words (LamC.of r1 TB__law_words (.tail _ (.head _)) (List.forall_mem_cons.mpr ⟨fun z => absurd z u__law_alone__law_words, (List.forall_mem_cons.mpr ⟨fun _ => rfl, (List.forall_mem_cons.mpr ⟨fun z => absurd z u_law__law_words, (fun _ h => absurd h List.not_mem_nil)⟩)⟩)⟩)) rfl a1 k1 f1 c1 g E__law_said E_may_outlast E_must_outlast E_shows_may E_shows_never E_shows_not
  have E__law_whole : FnE P w mg base T "_law_whole" 1 1 sem__law_whole := fn_e F__law_whole sc__law_whole rfl (PySem.W.mg_of X G a__law_whole) B__law_whole rfl sm fun X1 W1 H1 e1 e2 e3 e4 a1 k1 f1 c1 => by
    subst e1 e2 e3 e4
    exact b__law_whole a1 k1 f1 c1 g
  have E__law_within : FnE P w mg base T "_law_within" 2 3 sem__law_within := fn_e F__law_within sc__law_within rfl (PySem.W.mg_of X G a__law_within) B__law_within rfl sm fun X1 W1 H1 e1 e2 e3 e4 a1 k1 f1 c1 => by
    subst e1 e2 e3 e4
    exact b__law_within a1 k1 f1 c1 g E__law_whole
  have E_need_time : FnE P w mg base T "need_time" 3 1 sem_need_time := fn_e F_need_time sc_need_time rfl (PySem.W.mg_of X G a_need_time) B_need_time rfl sm fun X1 W1 H1 e1 e2 e3 e4 a1 k1 f1 c1 => by
    subst e1 e2 e3 e4
    exact b_need_time a1 k1 f1 c1 g E_is_from_to
  have E_bounds : FnE P w mg base T "bounds" 8 2 sem_bounds := fn_e F_bounds sc_bounds rfl (PySem.W.mg_of X G a_bounds) B_bounds rfl sm fun X1 W1 H1 e1 e2 e3 e4 a1 k1 f1 c1 => by
    subst e1 e2 e3 e4
    exact b_bounds a1 k1 f1 c1 g E_need_plain E_need_time E_lasting E_soonest_by E_latest_by
  refine fn_gR (T := T) F_law sc_law rfl rfl rfl sm fun X1 W1 H1 e1 e2 _ e4 e5 e6 e7 e8 e9 c1 r1 => ?_
  · subst e1 e2 e4 e5
    exact b_law (LamC.of r1 TB_law (.tail _ (.tail _ (.head _))) (List.forall_mem_cons.mpr ⟨fun z => absurd z u__law_alone_law, (List.forall_mem_cons.mpr ⟨fun z => absurd z u__law_words_law, (List.forall_mem_cons.mpr ⟨fun _ => rfl, (fun _ h => absurd h List.not_mem_nil)⟩)⟩)⟩)) rfl ⟨e6, e7⟩ e8 (fun x => by rw [e9]) c1 g E__law_said E__law_pot E__law_plain E__law_mixed E__law_cell_at E__law_alone E__law_odd E__law_no_books E__law_take E__law_words E__law_within E_bounds
  exact fun s u => .of_eq rfl
end Lw
namespace Lw
open PySem PySem.Spec PyProof.Rows L2 He DL
theorem lawS {P : Program} {w : World} {K : PySem.W.Frag} {h : Heap} {mg : Str → Option Value} {fa : Addr} (X : K.In h) (G : h.Ns mainGlobals mg) (hfa : mg "law" = some (.ref fa)) (c : DL.SaysX faS fnS K) :
    DL.Walked (DL.tbX K tfS) P w K mg fa "_law_script" 14 fun sem => ∀ ns : List Int, ns.length ≤ 63 → ∃ os, sem [.dat (.list (ns.map .int))] = some (.ok (.dat (.bool true)) os) := by
  have a__law_pot : PySem.W.nsIn K mainGlobals "_law_pot" = some (some (.ref (ga K "_law_pot"))) := of_decide_eq_true (c.fact 0 0 rfl rfl)
  have dv__law_pot : dvX K (ga K "_law_pot") = .none := of_decide_eq_true (c.fact 0 1 rfl rfl)
  obtain ⟨⟨_, _, _, _, _, _, _, _, l__law_pot⟩, k__law_pot, c__law_pot⟩ := c.def_ 0 rfl dv__law_pot rfl
  have a__law_take : PySem.W.nsIn K mainGlobals "_law_take" = some (some (.ref (ga K "_law_take"))) := of_decide_eq_true (c.fact 0 2 rfl rfl)
  have dv__law_take : dvX K (ga K "_law_take") = .none := of_decide_eq_true (c.fact 0 3 rfl rfl)
  obtain ⟨⟨_, _, _, _, _, _, _, _, l__law_take⟩, k__law_take, c__law_take⟩ := c.def_ 1 rfl dv__law_take rfl
  have a__law_plain : PySem.W.nsIn K mainGlobals "_law_plain" = some (some (.ref (ga K "_law_plain"))) := of_decide_eq_true (c.fact 0 4 rfl rfl)
  have dv__law_plain : dvX K (ga K "_law_plain") = .none := of_decide_eq_true (c.fact 0 5 rfl rfl)
  obtain ⟨⟨_, _, _, _, _, _, _, _, l__law_plain⟩, k__law_plain, c__law_plain⟩ := c.def_ 2 rfl dv__law_plain rfl
  have a__law_mixed : PySem.W.nsIn K mainGlobals "_law_mixed" = some (some (.ref (ga K "_law_mixed"))) := of_decide_eq_true (c.fact 0 6 rfl rfl)
  have dv__law_mixed : dvX K (ga K "_law_mixed") = .none := of_decide_eq_true (c.fact 0 7 rfl rfl)
  obtain ⟨⟨_, _, _, _, _, _, _, _, l__law_mixed⟩, k__law_mixed, c__law_mixed⟩ := c.def_ 3 rfl dv__law_mixed rfl
  have a__law_cell_at : PySem.W.nsIn K mainGlobals "_law_cell_at" = some (some (.ref (ga K "_law_cell_at"))) := of_decide_eq_true (c.fact 0 8 rfl rfl)
  have dv__law_cell_at : dvX K (ga K "_law_cell_at") = .none := of_decide_eq_true (c.fact 0 9 rfl rfl)
  obtain ⟨⟨_, _, _, _, _, _, _, _, l__law_cell_at⟩, k__law_cell_at, c__law_cell_at⟩ := c.def_ 4 rfl dv__law_cell_at rfl
  have a_is_whole : PySem.W.nsIn K mainGlobals "is_whole" = some (some (.ref (ga K "is_whole"))) := of_decide_eq_true (c.fact 0 10 rfl rfl)
  have dv_is_whole : dvX K (ga K "is_whole") = .none := of_decide_eq_true (c.fact 0 11 rfl rfl)
  obtain ⟨⟨_, _, _, _, _, _, _, _, l_is_whole⟩, k_is_whole, c_is_whole⟩ := c.def_ 5 rfl dv_is_whole rfl
  have a_is_from_to : PySem.W.nsIn K mainGlobals "is_from_to" = some (some (.ref (ga K "is_from_to"))) := of_decide_eq_true (c.fact 0 12 rfl rfl)
  have dv_is_from_to : dvX K (ga K "is_from_to") = .none := of_decide_eq_true (c.fact 0 13 rfl rfl)
  obtain ⟨⟨_, _, _, _, _, _, _, _, l_is_from_to⟩, k_is_from_to, c_is_from_to⟩ := c.def_ 6 rfl dv_is_from_to rfl
  have a_is_lasting : PySem.W.nsIn K mainGlobals "is_lasting" = some (some (.ref (ga K "is_lasting"))) := of_decide_eq_true (c.fact 0 14 rfl rfl)
  have dv_is_lasting : dvX K (ga K "is_lasting") = .none := of_decide_eq_true (c.fact 0 15 rfl rfl)
  obtain ⟨⟨_, _, _, _, _, _, _, _, l_is_lasting⟩, k_is_lasting, c_is_lasting⟩ := c.def_ 7 rfl dv_is_lasting rfl
  have a_is_span : PySem.W.nsIn K mainGlobals "is_span" = some (some (.ref (ga K "is_span"))) := of_decide_eq_true (c.fact 0 16 rfl rfl)
  have dv_is_span : dvX K (ga K "is_span") = .none := of_decide_eq_true (c.fact 0 17 rfl rfl)
  obtain ⟨⟨_, _, _, _, _, _, _, _, l_is_span⟩, k_is_span, c_is_span⟩ := c.def_ 8 rfl dv_is_span rfl
  have a_is_book : PySem.W.nsIn K mainGlobals "is_book" = some (some (.ref (ga K "is_book"))) := of_decide_eq_true (c.fact 0 18 rfl rfl)
  have dv_is_book : dvX K (ga K "is_book") = .none := of_decide_eq_true (c.fact 0 19 rfl rfl)
  obtain ⟨⟨_, _, _, _, _, _, _, _, l_is_book⟩, k_is_book, c_is_book⟩ := c.def_ 9 rfl dv_is_book rfl
  have a_need_book : PySem.W.nsIn K mainGlobals "need_book" = some (some (.ref (ga K "need_book"))) := of_decide_eq_true (c.fact 0 20 rfl rfl)
  have dv_need_book : dvX K (ga K "need_book") = .none := of_decide_eq_true (c.fact 0 21 rfl rfl)
  obtain ⟨⟨_, _, _, _, _, _, _, _, l_need_book⟩, k_need_book, c_need_book⟩ := c.def_ 10 rfl dv_need_book rfl
  have a_need_plain : PySem.W.nsIn K mainGlobals "need_plain" = some (some (.ref (ga K "need_plain"))) := of_decide_eq_true (c.fact 0 22 rfl rfl)
  have dv_need_plain : dvX K (ga K "need_plain") = .none := of_decide_eq_true (c.fact 0 23 rfl rfl)
  obtain ⟨⟨_, _, _, _, _, _, _, _, l_need_plain⟩, k_need_plain, c_need_plain⟩ := c.def_ 11 rfl dv_need_plain rfl
  have a_is_true_of : PySem.W.nsIn K mainGlobals "is_true_of" = some (some (.ref (ga K "is_true_of"))) := of_decide_eq_true (c.fact 0 24 rfl rfl)
  have dv_is_true_of : dvX K (ga K "is_true_of") = .none := of_decide_eq_true (c.fact 0 25 rfl rfl)
  obtain ⟨⟨_, _, _, _, _, _, _, _, l_is_true_of⟩, k_is_true_of, c_is_true_of⟩ := c.def_ 12 rfl dv_is_true_of rfl
  have a_is_truth_by : PySem.W.nsIn K mainGlobals "is_truth_by" = some (some (.ref (ga K "is_truth_by"))) := of_decide_eq_true (c.fact 0 26 rfl rfl)
  have dv_is_truth_by : dvX K (ga K "is_truth_by") = .none := of_decide_eq_true (c.fact 0 27 rfl rfl)
  obtain ⟨⟨_, _, _, _, _, _, _, _, l_is_truth_by⟩, k_is_truth_by, c_is_truth_by⟩ := c.def_ 13 rfl dv_is_truth_by rfl
  have a_is_truth : PySem.W.nsIn K mainGlobals "is_truth" = some (some (.ref (ga K "is_truth"))) := of_decide_eq_true (c.fact 0 28 rfl rfl)
  have dv_is_truth : dvX K (ga K "is_truth") = .none := of_decide_eq_true (c.fact 0 29 rfl rfl)
  obtain ⟨⟨_, _, _, _, _, _, _, _, l_is_truth⟩, k_is_truth, c_is_truth⟩ := c.def_ 14 rfl dv_is_truth rfl
  have a_soonest_by : PySem.W.nsIn K mainGlobals "soonest_by" = some (some (.ref (ga K "soonest_by"))) := of_decide_eq_true (c.fact 1 0 rfl rfl)
  have dv_soonest_by : dvX K (ga K "soonest_by") = .none := of_decide_eq_true (c.fact 1 1 rfl rfl)
  obtain ⟨⟨_, _, _, _, _, _, _, _, l_soonest_by⟩, k_soonest_by, c_soonest_by⟩ := c.def_ 15 rfl dv_soonest_by rfl
  have a_soonest : PySem.W.nsIn K mainGlobals "soonest" = some (some (.ref (ga K "soonest"))) := of_decide_eq_true (c.fact 1 2 rfl rfl)
  have dv_soonest : dvX K (ga K "soonest") = .none := of_decide_eq_true (c.fact 1 3 rfl rfl)
  obtain ⟨⟨_, _, _, _, _, _, _, _, l_soonest⟩, k_soonest, c_soonest⟩ := c.def_ 16 rfl dv_soonest rfl
  have a_latest_by : PySem.W.nsIn K mainGlobals "latest_by" = some (some (.ref (ga K "latest_by"))) := of_decide_eq_true (c.fact 1 4 rfl rfl)
  have dv_latest_by : dvX K (ga K "latest_by") = .none := of_decide_eq_true (c.fact 1 5 rfl rfl)
  obtain ⟨⟨_, _, _, _, _, _, _, _, l_latest_by⟩, k_latest_by, c_latest_by⟩ := c.def_ 17 rfl dv_latest_by rfl
  have a_latest : PySem.W.nsIn K mainGlobals "latest" = some (some (.ref (ga K "latest"))) := of_decide_eq_true (c.fact 1 6 rfl rfl)
  have dv_latest : dvX K (ga K "latest") = .none := of_decide_eq_true (c.fact 1 7 rfl rfl)
  obtain ⟨⟨_, _, _, _, _, _, _, _, l_latest⟩, k_latest, c_latest⟩ := c.def_ 18 rfl dv_latest rfl
  have a__law_refusal : PySem.W.nsIn K mainGlobals "_law_refusal" = some (some (.ref (ga K "_law_refusal"))) := of_decide_eq_true (c.fact 1 8 rfl rfl)
  have dv__law_refusal : dvX K (ga K "_law_refusal") = .none := of_decide_eq_true (c.fact 1 9 rfl rfl)
  obtain ⟨⟨_, _, _, _, _, _, _, _, l__law_refusal⟩, k__law_refusal, c__law_refusal⟩ := c.def_ 19 rfl dv__law_refusal rfl
  have a__law_said : PySem.W.nsIn K mainGlobals "_law_said" = some (some (.ref (ga K "_law_said"))) := of_decide_eq_true (c.fact 1 10 rfl rfl)
  have dv__law_said : dvX K (ga K "_law_said") = .none := of_decide_eq_true (c.fact 1 11 rfl rfl)
  obtain ⟨⟨_, _, _, _, _, _, _, _, l__law_said⟩, k__law_said, c__law_said⟩ := c.def_ 20 rfl dv__law_said rfl
  have a__law_alone : PySem.W.nsIn K mainGlobals "_law_alone" = some (some (.ref (ga K "_law_alone"))) := of_decide_eq_true (c.fact 1 12 rfl rfl)
  have dv__law_alone : dvX K (ga K "_law_alone") = .none := of_decide_eq_true (c.fact 1 13 rfl rfl)
  have ce__law_alone : cdX K (ga K "_law_alone") = (.ref (rfV (cdX K (ga K "_law_alone")))) := of_decide_eq_true (c.fact 1 14 rfl rfl)
  obtain ⟨⟨_, _, _, _, _, _, _, _, l__law_alone⟩, k__law_alone, c__law_alone⟩ := c.def_ 21 rfl dv__law_alone ce__law_alone
  obtain ⟨_, _, _, cf__law_alone⟩ := fldB_ok (c.fact 1 15 rfl rfl)
  have pf__law_alone : (fldX K (rfV (cdX K (ga K "_law_alone"))))[11]? = some (.ref (ptX K (rfV (cdX K (ga K "_law_alone"))))) := of_decide_eq_true (c.fact 1 16 rfl rfl)
  have np__law_alone := none_ok (c.fact 1 17 rfl rfl)
  have ch__law_alone : PySem.W.codeHdIn K (rfV (cdX K (ga K "_law_alone"))) (ptX K (rfV (cdX K (ga K "_law_alone")))) = true := of_decide_eq_true (c.fact 1 18 rfl rfl)
  have mp__law_alone : (ptX K (rfV (cdX K (ga K "_law_alone")))) ∈ tbX K tfS := List.Mem.head _
  have a__law_odd : PySem.W.nsIn K mainGlobals "_law_odd" = some (some (.ref (ga K "_law_odd"))) := of_decide_eq_true (c.fact 1 19 rfl rfl)
  have dv__law_odd : dvX K (ga K "_law_odd") = .none := of_decide_eq_true (c.fact 1 20 rfl rfl)
  obtain ⟨⟨_, _, _, _, _, _, _, _, l__law_odd⟩, k__law_odd, c__law_odd⟩ := c.def_ 22 rfl dv__law_odd rfl
  have a__law_no_books : PySem.W.nsIn K mainGlobals "_law_no_books" = some (some (.ref (ga K "_law_no_books"))) := of_decide_eq_true (c.fact 1 21 rfl rfl)
  have dv__law_no_books : dvX K (ga K "_law_no_books") = .none := of_decide_eq_true (c.fact 1 22 rfl rfl)
  obtain ⟨⟨_, _, _, _, _, _, _, _, l__law_no_books⟩, k__law_no_books, c__law_no_books⟩ := c.def_ 23 rfl dv__law_no_books rfl
  have a_is_less : PySem.W.nsIn K mainGlobals "is_less" = some (some (.ref (ga K "is_less"))) := of_decide_eq_true (c.fact 1 23 rfl rfl)
  have dv_is_less : dvX K (ga K "is_less") = .none := of_decide_eq_true (c.fact 1 24 rfl rfl)
  obtain ⟨⟨_, _, _, _, _, _, _, _, l_is_less⟩, k_is_less, c_is_less⟩ := c.def_ 24 rfl dv_is_less rfl
  have a_common : PySem.W.nsIn K mainGlobals "common" = some (some (.ref (ga K "common"))) := of_decide_eq_true (c.fact 1 25 rfl rfl)
  have dv_common : dvX K (ga K "common") = .none := of_decide_eq_true (c.fact 1 26 rfl rfl)
  obtain ⟨⟨_, _, _, _, _, _, _, _, l_common⟩, k_common, c_common⟩ := c.def_ 25 rfl dv_common rfl
  have a_put : PySem.W.nsIn K mainGlobals "put" = some (some (.ref (ga K "put"))) := of_decide_eq_true (c.fact 1 27 rfl rfl)
  have dv_put : dvX K (ga K "put") = .none := of_decide_eq_true (c.fact 1 28 rfl rfl)
  obtain ⟨⟨_, _, _, _, _, _, _, _, l_put⟩, k_put, c_put⟩ := c.def_ 26 rfl dv_put rfl
  have a_lasting : PySem.W.nsIn K mainGlobals "lasting" = some (some (.ref (ga K "lasting"))) := of_decide_eq_true (c.fact 1 29 rfl rfl)
  have dv_lasting : dvX K (ga K "lasting") = .none := of_decide_eq_true (c.fact 2 0 rfl rfl)
  obtain ⟨⟨_, _, _, _, _, _, _, _, l_lasting⟩, k_lasting, c_lasting⟩ := c.def_ 27 rfl dv_lasting rfl
  have a_first_less : PySem.W.nsIn K mainGlobals "first_less" = some (some (.ref (ga K "first_less"))) := of_decide_eq_true (c.fact 2 1 rfl rfl)
  have dv_first_less : dvX K (ga K "first_less") = .none := of_decide_eq_true (c.fact 2 2 rfl rfl)
  obtain ⟨⟨_, _, _, _, _, _, _, _, l_first_less⟩, k_first_less, c_first_less⟩ := c.def_ 28 rfl dv_first_less rfl
  have a_may_outlast : PySem.W.nsIn K mainGlobals "may_outlast" = some (some (.ref (ga K "may_outlast"))) := of_decide_eq_true (c.fact 2 3 rfl rfl)
  have dv_may_outlast : dvX K (ga K "may_outlast") = .none := of_decide_eq_true (c.fact 2 4 rfl rfl)
  obtain ⟨⟨_, _, _, _, _, _, _, _, l_may_outlast⟩, k_may_outlast, c_may_outlast⟩ := c.def_ 29 rfl dv_may_outlast rfl
  have a_must_outlast : PySem.W.nsIn K mainGlobals "must_outlast" = some (some (.ref (ga K "must_outlast"))) := of_decide_eq_true (c.fact 2 5 rfl rfl)
  have dv_must_outlast : dvX K (ga K "must_outlast") = .none := of_decide_eq_true (c.fact 2 6 rfl rfl)
  obtain ⟨⟨_, _, _, _, _, _, _, _, l_must_outlast⟩, k_must_outlast, c_must_outlast⟩ := c.def_ 30 rfl dv_must_outlast rfl
  have a_are_truths : PySem.W.nsIn K mainGlobals "are_truths" = some (some (.ref (ga K "are_truths"))) := of_decide_eq_true (c.fact 2 7 rfl rfl)
  have dv_are_truths : dvX K (ga K "are_truths") = .none := of_decide_eq_true (c.fact 2 8 rfl rfl)
  obtain ⟨⟨_, _, _, _, _, _, _, _, l_are_truths⟩, k_are_truths, c_are_truths⟩ := c.def_ 31 rfl dv_are_truths rfl
  have a_shows_may : PySem.W.nsIn K mainGlobals "shows_may" = some (some (.ref (ga K "shows_may"))) := of_decide_eq_true (c.fact 2 9 rfl rfl)
  have dv_shows_may : dvX K (ga K "shows_may") = .none := of_decide_eq_true (c.fact 2 10 rfl rfl)
  obtain ⟨⟨_, _, _, _, _, _, _, _, l_shows_may⟩, k_shows_may, c_shows_may⟩ := c.def_ 32 rfl dv_shows_may rfl
  have a_shows_never : PySem.W.nsIn K mainGlobals "shows_never" = some (some (.ref (ga K "shows_never"))) := of_decide_eq_true (c.fact 2 11 rfl rfl)
  have dv_shows_never : dvX K (ga K "shows_never") = .none := of_decide_eq_true (c.fact 2 12 rfl rfl)
  obtain ⟨⟨_, _, _, _, _, _, _, _, l_shows_never⟩, k_shows_never, c_shows_never⟩ := c.def_ 33 rfl dv_shows_never rfl
  have a_shows_not : PySem.W.nsIn K mainGlobals "shows_not" = some (some (.ref (ga K "shows_not"))) := of_decide_eq_true (c.fact 2 13 rfl rfl)
  have dv_shows_not : dvX K (ga K "shows_not") = .none := of_decide_eq_true (c.fact 2 14 rfl rfl)
  obtain ⟨⟨_, _, _, _, _, _, _, _, l_shows_not⟩, k_shows_not, c_shows_not⟩ := c.def_ 34 rfl dv_shows_not rfl
  have a__law_words : PySem.W.nsIn K mainGlobals "_law_words" = some (some (.ref (ga K "_law_words"))) := of_decide_eq_true (c.fact 2 15 rfl rfl)
  have dv__law_words : dvX K (ga K "_law_words") = .none := of_decide_eq_true (c.fact 2 16 rfl rfl)
  have ce__law_words : cdX K (ga K "_law_words") = (.ref (rfV (cdX K (ga K "_law_words")))) := of_decide_eq_true (c.fact 2 17 rfl rfl)
  obtain ⟨⟨_, _, _, _, _, _, _, _, l__law_words⟩, k__law_words, c__law_words⟩ := c.def_ 35 rfl dv__law_words ce__law_words
  obtain ⟨_, _, _, cf__law_words⟩ := fldB_ok (c.fact 2 18 rfl rfl)
  have pf__law_words : (fldX K (rfV (cdX K (ga K "_law_words"))))[11]? = some (.ref (ptX K (rfV (cdX K (ga K "_law_words"))))) := of_decide_eq_true (c.fact 2 19 rfl rfl)
  have np__law_words := none_ok (c.fact 2 20 rfl rfl)
  have ch__law_words : PySem.W.codeHdIn K (rfV (cdX K (ga K "_law_words"))) (ptX K (rfV (cdX K (ga K "_law_words")))) = true := of_decide_eq_true (c.fact 2 21 rfl rfl)
  have mp__law_words : (ptX K (rfV (cdX K (ga K "_law_words")))) ∈ tbX K tfS := List.Mem.tail _ (List.Mem.head _)
  have a__law_whole : PySem.W.nsIn K mainGlobals "_law_whole" = some (some (.ref (ga K "_law_whole"))) := of_decide_eq_true (c.fact 2 22 rfl rfl)
  have dv__law_whole : dvX K (ga K "_law_whole") = .none := of_decide_eq_true (c.fact 2 23 rfl rfl)
  obtain ⟨⟨_, _, _, _, _, _, _, _, l__law_whole⟩, k__law_whole, c__law_whole⟩ := c.def_ 36 rfl dv__law_whole rfl
  have a__law_within : PySem.W.nsIn K mainGlobals "_law_within" = some (some (.ref (ga K "_law_within"))) := of_decide_eq_true (c.fact 2 24 rfl rfl)
  have dv__law_within : dvX K (ga K "_law_within") = .none := of_decide_eq_true (c.fact 2 25 rfl rfl)
  obtain ⟨⟨_, _, _, _, _, _, _, _, l__law_within⟩, k__law_within, c__law_within⟩ := c.def_ 37 rfl dv__law_within rfl
  have a_need_time : PySem.W.nsIn K mainGlobals "need_time" = some (some (.ref (ga K "need_time"))) := of_decide_eq_true (c.fact 2 26 rfl rfl)
  have dv_need_time : dvX K (ga K "need_time") = .none := of_decide_eq_true (c.fact 2 27 rfl rfl)
  obtain ⟨⟨_, _, _, _, _, _, _, _, l_need_time⟩, k_need_time, c_need_time⟩ := c.def_ 38 rfl dv_need_time rfl
  have a_bounds : PySem.W.nsIn K mainGlobals "bounds" = some (some (.ref (ga K "bounds"))) := of_decide_eq_true (c.fact 2 28 rfl rfl)
  have dv_bounds : dvX K (ga K "bounds") = .none := of_decide_eq_true (c.fact 2 29 rfl rfl)
  obtain ⟨⟨_, _, _, _, _, _, _, _, l_bounds⟩, k_bounds, c_bounds⟩ := c.def_ 39 rfl dv_bounds rfl
  have a_law : PySem.W.nsIn K mainGlobals "law" = some (some (.ref (ga K "law"))) := of_decide_eq_true (c.fact 3 0 rfl rfl)
  have dv_law : dvX K (ga K "law") = .none := of_decide_eq_true (c.fact 3 1 rfl rfl)
  have ce_law : cdX K (ga K "law") = (.ref (rfV (cdX K (ga K "law")))) := of_decide_eq_true (c.fact 3 2 rfl rfl)
  obtain ⟨⟨_, _, _, _, _, _, _, _, l_law⟩, k_law, c_law⟩ := c.def_ 40 rfl dv_law ce_law
  obtain ⟨_, _, _, cf_law⟩ := fldB_ok (c.fact 3 3 rfl rfl)
  have pf_law : (fldX K (rfV (cdX K (ga K "law"))))[11]? = some (.ref (ptX K (rfV (cdX K (ga K "law"))))) := of_decide_eq_true (c.fact 3 4 rfl rfl)
  have np_law := none_ok (c.fact 3 5 rfl rfl)
  have ch_law : PySem.W.codeHdIn K (rfV (cdX K (ga K "law"))) (ptX K (rfV (cdX K (ga K "law")))) = true := of_decide_eq_true (c.fact 3 6 rfl rfl)
  have mp_law : (ptX K (rfV (cdX K (ga K "law")))) ∈ tbX K tfS := List.Mem.tail _ (List.Mem.tail _ (List.Mem.head _))
  have z_ValueError : PySem.W.nsIn K mainGlobals "ValueError" = some none := of_decide_eq_true (c.fact 3 7 rfl rfl)
  have z_abs : PySem.W.nsIn K mainGlobals "abs" = some none := of_decide_eq_true (c.fact 3 8 rfl rfl)
  have z_all : PySem.W.nsIn K mainGlobals "all" = some none := of_decide_eq_true (c.fact 3 9 rfl rfl)
  have z_any : PySem.W.nsIn K mainGlobals "any" = some none := of_decide_eq_true (c.fact 3 10 rfl rfl)
  have z_bool : PySem.W.nsIn K mainGlobals "bool" = some none := of_decide_eq_true (c.fact 3 11 rfl rfl)
  have z_int : PySem.W.nsIn K mainGlobals "int" = some none := of_decide_eq_true (c.fact 3 12 rfl rfl)
  have z_isinstance : PySem.W.nsIn K mainGlobals "isinstance" = some none := of_decide_eq_true (c.fact 3 13 rfl rfl)
  have z_len : PySem.W.nsIn K mainGlobals "len" = some none := of_decide_eq_true (c.fact 3 14 rfl rfl)
  have z_list : PySem.W.nsIn K mainGlobals "list" = some none := of_decide_eq_true (c.fact 3 15 rfl rfl)
  have z_max : PySem.W.nsIn K mainGlobals "max" = some none := of_decide_eq_true (c.fact 3 16 rfl rfl)
  have z_min : PySem.W.nsIn K mainGlobals "min" = some none := of_decide_eq_true (c.fact 3 17 rfl rfl)
  have z_range : PySem.W.nsIn K mainGlobals "range" = some none := of_decide_eq_true (c.fact 3 18 rfl rfl)
  have z_repr : PySem.W.nsIn K mainGlobals "repr" = some none := of_decide_eq_true (c.fact 3 19 rfl rfl)
  have z_sorted : PySem.W.nsIn K mainGlobals "sorted" = some none := of_decide_eq_true (c.fact 3 20 rfl rfl)
  have z_tuple : PySem.W.nsIn K mainGlobals "tuple" = some none := of_decide_eq_true (c.fact 3 21 rfl rfl)
  have z_zip : PySem.W.nsIn K mainGlobals "zip" = some none := of_decide_eq_true (c.fact 3 22 rfl rfl)
  have n_KINDS : PySem.W.nsIn K mainGlobals "KINDS" = some (some (.ref (ga K "KINDS"))) := of_decide_eq_true (c.fact 3 23 rfl rfl)
  obtain ⟨_, _, _, m_KINDS⟩ := seqX_ok (c.fact 3 24 rfl rfl)
  have n_LATEST : PySem.W.nsIn K mainGlobals "LATEST" = some (some (.int 2000 (tkV (nsX K "LATEST")))) := nsB_ok (c.fact 3 25 rfl rfl)
  have n_MOST_AGE : PySem.W.nsIn K mainGlobals "MOST_AGE" = some (some (.int 999 (tkV (nsX K "MOST_AGE")))) := nsB_ok (c.fact 3 26 rfl rfl)
  have n_MOST_SPANS : PySem.W.nsIn K mainGlobals "MOST_SPANS" = some (some (.int 40 (tkV (nsX K "MOST_SPANS")))) := nsB_ok (c.fact 3 27 rfl rfl)
  have n_MOST_TIME : PySem.W.nsIn K mainGlobals "MOST_TIME" = some (some (.int 9999 (tkV (nsX K "MOST_TIME")))) := nsB_ok (c.fact 3 28 rfl rfl)
  have g_SpanError : PySem.W.nsIn K mainGlobals "SpanError" = some (some (.ref (ga K "SpanError"))) := of_decide_eq_true (c.fact 3 29 rfl rfl)
  have g_NoBook : PySem.W.nsIn K mainGlobals "NoBook" = some (some (.ref (ga K "NoBook"))) := of_decide_eq_true (c.fact 4 0 rfl rfl)
  have q_NoBook : PySem.W.keepIn K (.ref (ga K "NoBook")) = true := of_decide_eq_true (c.fact 4 1 rfl rfl)
  have x_NoBook : PySem.W.excIn K (ga K "NoBook") veM "ValueError.__new__" = true := of_decide_eq_true (c.fact 4 2 rfl rfl)
  have b_NoBook : PySem.W.subIn K (.ref (ga K "NoBook")) (.type "BaseException") = some true := of_decide_eq_true (c.fact 4 3 rfl rfl)
  have t_NoBook : PySem.W.typeIn K (.ref (ga K "NoBook")) = some (.type "type") := of_decide_eq_true (c.fact 4 4 rfl rfl)
  have g_NoTime : PySem.W.nsIn K mainGlobals "NoTime" = some (some (.ref (ga K "NoTime"))) := of_decide_eq_true (c.fact 4 5 rfl rfl)
  have q_NoTime : PySem.W.keepIn K (.ref (ga K "NoTime")) = true := of_decide_eq_true (c.fact 4 6 rfl rfl)
  have x_NoTime : PySem.W.excIn K (ga K "NoTime") veM "ValueError.__new__" = true := of_decide_eq_true (c.fact 4 7 rfl rfl)
  have b_NoTime : PySem.W.subIn K (.ref (ga K "NoTime")) (.type "BaseException") = some true := of_decide_eq_true (c.fact 4 8 rfl rfl)
  have t_NoTime : PySem.W.typeIn K (.ref (ga K "NoTime")) = some (.type "type") := of_decide_eq_true (c.fact 4 9 rfl rfl)
  have g_NoShare : PySem.W.nsIn K mainGlobals "NoShare" = some (some (.ref (ga K "NoShare"))) := of_decide_eq_true (c.fact 4 10 rfl rfl)
  have g_NoParts : PySem.W.nsIn K mainGlobals "NoParts" = some (some (.ref (ga K "NoParts"))) := of_decide_eq_true (c.fact 4 11 rfl rfl)
  have g_NoPlain : PySem.W.nsIn K mainGlobals "NoPlain" = some (some (.ref (ga K "NoPlain"))) := of_decide_eq_true (c.fact 4 12 rfl rfl)
  have q_NoPlain : PySem.W.keepIn K (.ref (ga K "NoPlain")) = true := of_decide_eq_true (c.fact 4 13 rfl rfl)
  have x_NoPlain : PySem.W.excIn K (ga K "NoPlain") veM "ValueError.__new__" = true := of_decide_eq_true (c.fact 4 14 rfl rfl)
  have b_NoPlain : PySem.W.subIn K (.ref (ga K "NoPlain")) (.type "BaseException") = some true := of_decide_eq_true (c.fact 4 15 rfl rfl)
  have t_NoPlain : PySem.W.typeIn K (.ref (ga K "NoPlain")) = some (.type "type") := of_decide_eq_true (c.fact 4 16 rfl rfl)
  have g_NoKind : PySem.W.nsIn K mainGlobals "NoKind" = some (some (.ref (ga K "NoKind"))) := of_decide_eq_true (c.fact 4 17 rfl rfl)
  have g_NoMarks : PySem.W.nsIn K mainGlobals "NoMarks" = some (some (.ref (ga K "NoMarks"))) := of_decide_eq_true (c.fact 4 18 rfl rfl)
  have g_NoWord : PySem.W.nsIn K mainGlobals "NoWord" = some (some (.ref (ga K "NoWord"))) := of_decide_eq_true (c.fact 4 19 rfl rfl)
  have g_NoFull : PySem.W.nsIn K mainGlobals "NoFull" = some (some (.ref (ga K "NoFull"))) := of_decide_eq_true (c.fact 4 20 rfl rfl)
  have g_NoNumber : PySem.W.nsIn K mainGlobals "NoNumber" = some (some (.ref (ga K "NoNumber"))) := of_decide_eq_true (c.fact 4 21 rfl rfl)
  have g_NoBand : PySem.W.nsIn K mainGlobals "NoBand" = some (some (.ref (ga K "NoBand"))) := of_decide_eq_true (c.fact 4 22 rfl rfl)
  have g_NoName : PySem.W.nsIn K mainGlobals "NoName" = some (some (.ref (ga K "NoName"))) := of_decide_eq_true (c.fact 4 23 rfl rfl)
  have g_NoDay : PySem.W.nsIn K mainGlobals "NoDay" = some (some (.ref (ga K "NoDay"))) := of_decide_eq_true (c.fact 4 24 rfl rfl)
  have g_NoDeed : PySem.W.nsIn K mainGlobals "NoDeed" = some (some (.ref (ga K "NoDeed"))) := of_decide_eq_true (c.fact 4 25 rfl rfl)
  have g_NoFraction : PySem.W.nsIn K mainGlobals "NoFraction" = some (some (.ref (ga K "NoFraction"))) := of_decide_eq_true (c.fact 4 26 rfl rfl)
  have g_NoText : PySem.W.nsIn K mainGlobals "NoText" = some (some (.ref (ga K "NoText"))) := of_decide_eq_true (c.fact 4 27 rfl rfl)
  have g_NoLine : PySem.W.nsIn K mainGlobals "NoLine" = some (some (.ref (ga K "NoLine"))) := of_decide_eq_true (c.fact 4 28 rfl rfl)
  have g_TooMany : PySem.W.nsIn K mainGlobals "TooMany" = some (some (.ref (ga K "TooMany"))) := of_decide_eq_true (c.fact 4 29 rfl rfl)
  have xq_NoBook : excCB K (ga K "NoBook") = true := of_decide_eq_true (c.fact 5 0 rfl rfl)
  have xm_NoBook_SpanError : PySem.W.exmOne K (.ref (ga K "NoBook")) (.ref (ga K "SpanError")) = some true := of_decide_eq_true (c.fact 5 1 rfl rfl)
  have xi_NoBook_NoBook : PySem.W.kitOne K (.ref (ga K "NoBook")) (.ref (ga K "NoBook")) = some true := of_decide_eq_true (c.fact 5 2 rfl rfl)
  have xi_NoBook_NoTime : PySem.W.kitOne K (.ref (ga K "NoBook")) (.ref (ga K "NoTime")) = some false := of_decide_eq_true (c.fact 5 3 rfl rfl)
  have xi_NoBook_NoShare : PySem.W.kitOne K (.ref (ga K "NoBook")) (.ref (ga K "NoShare")) = some false := of_decide_eq_true (c.fact 5 4 rfl rfl)
  have xi_NoBook_NoParts : PySem.W.kitOne K (.ref (ga K "NoBook")) (.ref (ga K "NoParts")) = some false := of_decide_eq_true (c.fact 5 5 rfl rfl)
  have xi_NoBook_NoPlain : PySem.W.kitOne K (.ref (ga K "NoBook")) (.ref (ga K "NoPlain")) = some false := of_decide_eq_true (c.fact 5 6 rfl rfl)
  have xi_NoBook_NoKind : PySem.W.kitOne K (.ref (ga K "NoBook")) (.ref (ga K "NoKind")) = some false := of_decide_eq_true (c.fact 5 7 rfl rfl)
  have xi_NoBook_NoMarks : PySem.W.kitOne K (.ref (ga K "NoBook")) (.ref (ga K "NoMarks")) = some false := of_decide_eq_true (c.fact 5 8 rfl rfl)
  have xi_NoBook_NoWord : PySem.W.kitOne K (.ref (ga K "NoBook")) (.ref (ga K "NoWord")) = some false := of_decide_eq_true (c.fact 5 9 rfl rfl)
  have xi_NoBook_NoFull : PySem.W.kitOne K (.ref (ga K "NoBook")) (.ref (ga K "NoFull")) = some false := of_decide_eq_true (c.fact 5 10 rfl rfl)
  have xi_NoBook_NoNumber : PySem.W.kitOne K (.ref (ga K "NoBook")) (.ref (ga K "NoNumber")) = some false := of_decide_eq_true (c.fact 5 11 rfl rfl)
  have xi_NoBook_NoBand : PySem.W.kitOne K (.ref (ga K "NoBook")) (.ref (ga K "NoBand")) = some false := of_decide_eq_true (c.fact 5 12 rfl rfl)
  have xi_NoBook_NoName : PySem.W.kitOne K (.ref (ga K "NoBook")) (.ref (ga K "NoName")) = some false := of_decide_eq_true (c.fact 5 13 rfl rfl)
  have xi_NoBook_NoDay : PySem.W.kitOne K (.ref (ga K "NoBook")) (.ref (ga K "NoDay")) = some false := of_decide_eq_true (c.fact 5 14 rfl rfl)
  have xi_NoBook_NoDeed : PySem.W.kitOne K (.ref (ga K "NoBook")) (.ref (ga K "NoDeed")) = some false := of_decide_eq_true (c.fact 5 15 rfl rfl)
  have xi_NoBook_NoFraction : PySem.W.kitOne K (.ref (ga K "NoBook")) (.ref (ga K "NoFraction")) = some false := of_decide_eq_true (c.fact 5 16 rfl rfl)
  have xi_NoBook_NoText : PySem.W.kitOne K (.ref (ga K "NoBook")) (.ref (ga K "NoText")) = some false := of_decide_eq_true (c.fact 5 17 rfl rfl)
  have xi_NoBook_NoLine : PySem.W.kitOne K (.ref (ga K "NoBook")) (.ref (ga K "NoLine")) = some false := of_decide_eq_true (c.fact 5 18 rfl rfl)
  have xi_NoBook_TooMany : PySem.W.kitOne K (.ref (ga K "NoBook")) (.ref (ga K "TooMany")) = some false := of_decide_eq_true (c.fact 5 19 rfl rfl)
  have xi_NoBook_ValueError : PySem.W.kitOne K (.ref (ga K "NoBook")) (.type "ValueError") = some true := of_decide_eq_true (c.fact 5 20 rfl rfl)
  have xq_NoTime : excCB K (ga K "NoTime") = true := of_decide_eq_true (c.fact 5 21 rfl rfl)
  have xm_NoTime_SpanError : PySem.W.exmOne K (.ref (ga K "NoTime")) (.ref (ga K "SpanError")) = some true := of_decide_eq_true (c.fact 5 22 rfl rfl)
  have xi_NoTime_NoBook : PySem.W.kitOne K (.ref (ga K "NoTime")) (.ref (ga K "NoBook")) = some false := of_decide_eq_true (c.fact 5 23 rfl rfl)
  have xi_NoTime_NoTime : PySem.W.kitOne K (.ref (ga K "NoTime")) (.ref (ga K "NoTime")) = some true := of_decide_eq_true (c.fact 5 24 rfl rfl)
  have xi_NoTime_NoShare : PySem.W.kitOne K (.ref (ga K "NoTime")) (.ref (ga K "NoShare")) = some false := of_decide_eq_true (c.fact 5 25 rfl rfl)
  have xi_NoTime_NoParts : PySem.W.kitOne K (.ref (ga K "NoTime")) (.ref (ga K "NoParts")) = some false := of_decide_eq_true (c.fact 5 26 rfl rfl)
  have xi_NoTime_NoPlain : PySem.W.kitOne K (.ref (ga K "NoTime")) (.ref (ga K "NoPlain")) = some false := of_decide_eq_true (c.fact 5 27 rfl rfl)
  have xi_NoTime_NoKind : PySem.W.kitOne K (.ref (ga K "NoTime")) (.ref (ga K "NoKind")) = some false := of_decide_eq_true (c.fact 5 28 rfl rfl)
  have xi_NoTime_NoMarks : PySem.W.kitOne K (.ref (ga K "NoTime")) (.ref (ga K "NoMarks")) = some false := of_decide_eq_true (c.fact 5 29 rfl rfl)
  have xi_NoTime_NoWord : PySem.W.kitOne K (.ref (ga K "NoTime")) (.ref (ga K "NoWord")) = some false := of_decide_eq_true (c.fact 6 0 rfl rfl)
  have xi_NoTime_NoFull : PySem.W.kitOne K (.ref (ga K "NoTime")) (.ref (ga K "NoFull")) = some false := of_decide_eq_true (c.fact 6 1 rfl rfl)
  have xi_NoTime_NoNumber : PySem.W.kitOne K (.ref (ga K "NoTime")) (.ref (ga K "NoNumber")) = some false := of_decide_eq_true (c.fact 6 2 rfl rfl)
  have xi_NoTime_NoBand : PySem.W.kitOne K (.ref (ga K "NoTime")) (.ref (ga K "NoBand")) = some false := of_decide_eq_true (c.fact 6 3 rfl rfl)
  have xi_NoTime_NoName : PySem.W.kitOne K (.ref (ga K "NoTime")) (.ref (ga K "NoName")) = some false := of_decide_eq_true (c.fact 6 4 rfl rfl)
  have xi_NoTime_NoDay : PySem.W.kitOne K (.ref (ga K "NoTime")) (.ref (ga K "NoDay")) = some false := of_decide_eq_true (c.fact 6 5 rfl rfl)
  have xi_NoTime_NoDeed : PySem.W.kitOne K (.ref (ga K "NoTime")) (.ref (ga K "NoDeed")) = some false := of_decide_eq_true (c.fact 6 6 rfl rfl)
  have xi_NoTime_NoFraction : PySem.W.kitOne K (.ref (ga K "NoTime")) (.ref (ga K "NoFraction")) = some false := of_decide_eq_true (c.fact 6 7 rfl rfl)
  have xi_NoTime_NoText : PySem.W.kitOne K (.ref (ga K "NoTime")) (.ref (ga K "NoText")) = some false := of_decide_eq_true (c.fact 6 8 rfl rfl)
  have xi_NoTime_NoLine : PySem.W.kitOne K (.ref (ga K "NoTime")) (.ref (ga K "NoLine")) = some false := of_decide_eq_true (c.fact 6 9 rfl rfl)
  have xi_NoTime_TooMany : PySem.W.kitOne K (.ref (ga K "NoTime")) (.ref (ga K "TooMany")) = some false := of_decide_eq_true (c.fact 6 10 rfl rfl)
  have xi_NoTime_ValueError : PySem.W.kitOne K (.ref (ga K "NoTime")) (.type "ValueError") = some true := of_decide_eq_true (c.fact 6 11 rfl rfl)
  have xq_NoPlain : excCB K (ga K "NoPlain") = true := of_decide_eq_true (c.fact 6 12 rfl rfl)
  have xm_NoPlain_SpanError : PySem.W.exmOne K (.ref (ga K "NoPlain")) (.ref (ga K "SpanError")) = some true := of_decide_eq_true (c.fact 6 13 rfl rfl)
  have xi_NoPlain_NoBook : PySem.W.kitOne K (.ref (ga K "NoPlain")) (.ref (ga K "NoBook")) = some false := of_decide_eq_true (c.fact 6 14 rfl rfl)
  have xi_NoPlain_NoTime : PySem.W.kitOne K (.ref (ga K "NoPlain")) (.ref (ga K "NoTime")) = some false := of_decide_eq_true (c.fact 6 15 rfl rfl)
  have xi_NoPlain_NoShare : PySem.W.kitOne K (.ref (ga K "NoPlain")) (.ref (ga K "NoShare")) = some false := of_decide_eq_true (c.fact 6 16 rfl rfl)
  have xi_NoPlain_NoParts : PySem.W.kitOne K (.ref (ga K "NoPlain")) (.ref (ga K "NoParts")) = some false := of_decide_eq_true (c.fact 6 17 rfl rfl)
  have xi_NoPlain_NoPlain : PySem.W.kitOne K (.ref (ga K "NoPlain")) (.ref (ga K "NoPlain")) = some true := of_decide_eq_true (c.fact 6 18 rfl rfl)
  have xi_NoPlain_NoKind : PySem.W.kitOne K (.ref (ga K "NoPlain")) (.ref (ga K "NoKind")) = some false := of_decide_eq_true (c.fact 6 19 rfl rfl)
  have xi_NoPlain_NoMarks : PySem.W.kitOne K (.ref (ga K "NoPlain")) (.ref (ga K "NoMarks")) = some false := of_decide_eq_true (c.fact 6 20 rfl rfl)
  have xi_NoPlain_NoWord : PySem.W.kitOne K (.ref (ga K "NoPlain")) (.ref (ga K "NoWord")) = some false := of_decide_eq_true (c.fact 6 21 rfl rfl)
  have xi_NoPlain_NoFull : PySem.W.kitOne K (.ref (ga K "NoPlain")) (.ref (ga K "NoFull")) = some false := of_decide_eq_true (c.fact 6 22 rfl rfl)
  have xi_NoPlain_NoNumber : PySem.W.kitOne K (.ref (ga K "NoPlain")) (.ref (ga K "NoNumber")) = some false := of_decide_eq_true (c.fact 6 23 rfl rfl)
  have xi_NoPlain_NoBand : PySem.W.kitOne K (.ref (ga K "NoPlain")) (.ref (ga K "NoBand")) = some false := of_decide_eq_true (c.fact 6 24 rfl rfl)
  have xi_NoPlain_NoName : PySem.W.kitOne K (.ref (ga K "NoPlain")) (.ref (ga K "NoName")) = some false := of_decide_eq_true (c.fact 6 25 rfl rfl)
  have xi_NoPlain_NoDay : PySem.W.kitOne K (.ref (ga K "NoPlain")) (.ref (ga K "NoDay")) = some false := of_decide_eq_true (c.fact 6 26 rfl rfl)
  have xi_NoPlain_NoDeed : PySem.W.kitOne K (.ref (ga K "NoPlain")) (.ref (ga K "NoDeed")) = some false := of_decide_eq_true (c.fact 6 27 rfl rfl)
  have xi_NoPlain_NoFraction : PySem.W.kitOne K (.ref (ga K "NoPlain")) (.ref (ga K "NoFraction")) = some false := of_decide_eq_true (c.fact 6 28 rfl rfl)
  have xi_NoPlain_NoText : PySem.W.kitOne K (.ref (ga K "NoPlain")) (.ref (ga K "NoText")) = some false := of_decide_eq_true (c.fact 6 29 rfl rfl)
  have xi_NoPlain_NoLine : PySem.W.kitOne K (.ref (ga K "NoPlain")) (.ref (ga K "NoLine")) = some false := of_decide_eq_true (c.fact 7 0 rfl rfl)
  have xi_NoPlain_TooMany : PySem.W.kitOne K (.ref (ga K "NoPlain")) (.ref (ga K "TooMany")) = some false := of_decide_eq_true (c.fact 7 1 rfl rfl)
  have xi_NoPlain_ValueError : PySem.W.kitOne K (.ref (ga K "NoPlain")) (.type "ValueError") = some true := of_decide_eq_true (c.fact 7 2 rfl rfl)
  have u__law_alone__law_words : (ptX K (rfV (cdX K (ga K "_law_alone")))) ≠ (ptX K (rfV (cdX K (ga K "_law_words")))) := of_decide_eq_true (c.fact 7 3 rfl rfl)
  have u__law_alone_law : (ptX K (rfV (cdX K (ga K "_law_alone")))) ≠ (ptX K (rfV (cdX K (ga K "law")))) := of_decide_eq_true (c.fact 7 4 rfl rfl)
  have u__law_words__law_alone : (ptX K (rfV (cdX K (ga K "_law_words")))) ≠ (ptX K (rfV (cdX K (ga K "_law_alone")))) := of_decide_eq_true (c.fact 7 5 rfl rfl)
  have u__law_words_law : (ptX K (rfV (cdX K (ga K "_law_words")))) ≠ (ptX K (rfV (cdX K (ga K "law")))) := of_decide_eq_true (c.fact 7 6 rfl rfl)
  have u_law__law_alone : (ptX K (rfV (cdX K (ga K "law")))) ≠ (ptX K (rfV (cdX K (ga K "_law_alone")))) := of_decide_eq_true (c.fact 7 7 rfl rfl)
  have u_law__law_words : (ptX K (rfV (cdX K (ga K "law")))) ≠ (ptX K (rfV (cdX K (ga K "_law_words")))) := of_decide_eq_true (c.fact 7 8 rfl rfl)
  exact DL.fin_g law_true (all_mk X G hfa a__law_pot l__law_pot c__law_pot k__law_pot a__law_take l__law_take c__law_take k__law_take a__law_plain l__law_plain c__law_plain k__law_plain a__law_mixed l__law_mixed c__law_mixed k__law_mixed a__law_cell_at l__law_cell_at c__law_cell_at k__law_cell_at a_is_whole l_is_whole c_is_whole k_is_whole a_is_from_to l_is_from_to c_is_from_to k_is_from_to a_is_lasting l_is_lasting c_is_lasting k_is_lasting a_is_span l_is_span c_is_span k_is_span a_is_book l_is_book c_is_book k_is_book a_need_book l_need_book c_need_book k_need_book a_need_plain l_need_plain c_need_plain k_need_plain a_is_true_of l_is_true_of c_is_true_of k_is_true_of a_is_truth_by l_is_truth_by c_is_truth_by k_is_truth_by a_is_truth l_is_truth c_is_truth k_is_truth a_soonest_by l_soonest_by c_soonest_by k_soonest_by a_soonest l_soonest c_soonest k_soonest a_latest_by l_latest_by c_latest_by k_latest_by a_latest l_latest c_latest k_latest a__law_refusal l__law_refusal c__law_refusal k__law_refusal a__law_said l__law_said c__law_said k__law_said a__law_alone l__law_alone c__law_alone cf__law_alone pf__law_alone np__law_alone ch__law_alone mp__law_alone k__law_alone a__law_odd l__law_odd c__law_odd k__law_odd a__law_no_books l__law_no_books c__law_no_books k__law_no_books a_is_less l_is_less c_is_less k_is_less a_common l_common c_common k_common a_put l_put c_put k_put a_lasting l_lasting c_lasting k_lasting a_first_less l_first_less c_first_less k_first_less a_may_outlast l_may_outlast c_may_outlast k_may_outlast a_must_outlast l_must_outlast c_must_outlast k_must_outlast a_are_truths l_are_truths c_are_truths k_are_truths a_shows_may l_shows_may c_shows_may k_shows_may a_shows_never l_shows_never c_shows_never k_shows_never a_shows_not l_shows_not c_shows_not k_shows_not a__law_words l__law_words c__law_words cf__law_words pf__law_words np__law_words ch__law_words mp__law_words k__law_words a__law_whole l__law_whole c__law_whole k__law_whole a__law_within l__law_within c__law_within k__law_within a_need_time l_need_time c_need_time k_need_time a_bounds l_bounds c_bounds k_bounds a_law l_law c_law cf_law pf_law np_law ch_law mp_law k_law z_ValueError z_abs z_all z_any z_bool z_int z_isinstance z_len z_list z_max z_min z_range z_repr z_sorted z_tuple z_zip n_KINDS m_KINDS n_LATEST n_MOST_AGE n_MOST_SPANS n_MOST_TIME g_SpanError g_NoBook q_NoBook x_NoBook b_NoBook t_NoBook g_NoTime q_NoTime x_NoTime b_NoTime t_NoTime g_NoShare g_NoParts g_NoPlain q_NoPlain x_NoPlain b_NoPlain t_NoPlain g_NoKind g_NoMarks g_NoWord g_NoFull g_NoNumber g_NoBand g_NoName g_NoDay g_NoDeed g_NoFraction g_NoText g_NoLine g_TooMany xq_NoBook xm_NoBook_SpanError xi_NoBook_NoBook xi_NoBook_NoTime xi_NoBook_NoShare xi_NoBook_NoParts xi_NoBook_NoPlain xi_NoBook_NoKind xi_NoBook_NoMarks xi_NoBook_NoWord xi_NoBook_NoFull xi_NoBook_NoNumber xi_NoBook_NoBand xi_NoBook_NoName xi_NoBook_NoDay xi_NoBook_NoDeed xi_NoBook_NoFraction xi_NoBook_NoText xi_NoBook_NoLine xi_NoBook_TooMany xi_NoBook_ValueError xq_NoTime xm_NoTime_SpanError xi_NoTime_NoBook xi_NoTime_NoTime xi_NoTime_NoShare xi_NoTime_NoParts xi_NoTime_NoPlain xi_NoTime_NoKind xi_NoTime_NoMarks xi_NoTime_NoWord xi_NoTime_NoFull xi_NoTime_NoNumber xi_NoTime_NoBand xi_NoTime_NoName xi_NoTime_NoDay xi_NoTime_NoDeed xi_NoTime_NoFraction xi_NoTime_NoText xi_NoTime_NoLine xi_NoTime_TooMany xi_NoTime_ValueError xq_NoPlain xm_NoPlain_SpanError xi_NoPlain_NoBook xi_NoPlain_NoTime xi_NoPlain_NoShare xi_NoPlain_NoParts xi_NoPlain_NoPlain xi_NoPlain_NoKind xi_NoPlain_NoMarks xi_NoPlain_NoWord xi_NoPlain_NoFull xi_NoPlain_NoNumber xi_NoPlain_NoBand xi_NoPlain_NoName xi_NoPlain_NoDay xi_NoPlain_NoDeed xi_NoPlain_NoFraction xi_NoPlain_NoText xi_NoPlain_NoLine xi_NoPlain_TooMany xi_NoPlain_ValueError u__law_alone__law_words u__law_alone_law u__law_words__law_alone u__law_words_law u_law__law_alone u_law__law_words)
end Lw
open PySem PySem.W PySem.Calls PyProof.Rows in
theorem PySem.Challenge.cw_outlasts_k74_truths_refused_holds : PySem.Challenge.rw_outlasts_k74_truths_refused.Holds := by
  w_on; o_law
  refine HandSHeadRun.head_any (r := OpenLaw.row PySem.Challenge.rw_outlasts_k74_truths_refused) (q := Lw.qS) (H := Lw.hkS) (ob := Lw.obS) (M := 12000) (loose := Lw.nmS) (d := HandSHeadRun.topDef (OpenLaw.row PySem.Challenge.rw_outlasts_k74_truths_refused).prog 69) (kwd := []) Lw.obS_eq
    (by kernel_rfl) (fun s => by kernel_rfl) Lw.runS (by kernel_rfl) (by kernel_rfl) (by kernel_rfl) (by rfl) (by first | assumption | decide +kernel) (by decide +kernel) ⟨rfl, rfl, rfl, rfl, rfl, by decide +kernel⟩ ?hw ?hc
  case hw => w_witness2
  case hc =>
    refine DL.walk_x (l := PySem.Challenge.rw_outlasts_k74_truths_refused) (n := 63) (k := 14) (m := 4) (x := "_law_script") (fa := Lw.faS) (fn := Lw.fnS) (tf := Lw.tfS) rfl (by decide) (by kernel_rfl) ⟨rfl, by decide, by decide⟩ (by decide +kernel) ?F
    intro w mg fa h K X G hmg0 c
    have hmg : mg ("law" : PySem.Str) = some (.ref fa) := by
      have e : (HandSHeadRun.topDef (OpenLaw.row PySem.Challenge.rw_outlasts_k74_truths_refused).prog 69).name = ("law" : PySem.Str) := by kernel_rfl
      rw [← e]
      exact hmg0
    exact Lw.lawS X G hmg c
