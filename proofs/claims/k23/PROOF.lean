import PyProof.Rows.All
import Wide.All
import OpenK.AllK
import Wide.FinOn
import Lean
import KE.KStateDown
import HandS.Ends
import HandS.More
import HandS.Words
import HandS.WordsExc
import HandS.Head0
import HandS.Head1
import HandS.Head2
import HandS.HeadEnd
import HandS.HeadHook1
import HandS.HeadHook2
import HandS.HeadHook4
import HandS.HeadWalk
import HandS.Property
import HandS.ExcInit
import KE.KExcSuper
import KE.KSuper
import PySem.Challenge.RW_slewchains_k23_chains_written_and_read
import HandS.ForMost
import HandS.ForExc
import HandS.Lambda
import HandS.ExcCtx
import HandS.HotCalls
import KE.KDictKeyed
import KE.SortData
import HandS.TupAny
import HandS.TupMul
import HandS.TupLe
import HandS.Style
import HandS.Deep
import HandS.Conv
import HandS.Defaults
import HandS.Zip
import KE.GoesEnum
import KE.GoesMore
import KE.GoesZip
import HandS.IsInst
import PyProof.P3In
import KE.KDictDisplayH
import HandS.Iter
import HandS.DictTup
import HandS.TupLen
import KE.KDictCopyH
import PyProof.Transfer
import KE.KDictSum
import KE.KDictPairs
import KE.KDictZip
import HandS.SetFor
import PyProof.Rows.SortShellAny
import HandS.Strs
import HandS.TupSets
import HandS.DictComp
import HandS.GenList
import HandS.List
import PyProof.ZipIter
import PyProof.TupleIter
import HandS.ExcIs
import KE.KIsAll
import HandS.Text
import HandS.Star
import HandS.MakeKwOnly
import HandS.OwnEq
import HandS.FStr
import HandS.ExcField
import PyProof.StrLawsTight
import PyProof.StrLawsIdx
import PyProof.Rows.StrNews2
import PyProof.StrLawsChain
set_option Elab.async false
set_option linter.all false
set_option maxRecDepth 100000
set_option maxHeartbeats 4000000
/-! ZL0: the head's facts: what the named things reach, no more; the run's parts joined. It stands first in the text: the run of the top wants all memory. -/
namespace VC
open PySem PySem.Spec PyProof.Rows L2 He
def exNames : List Str := ["InvalidChain", "InvalidStage", "InvalidSignal", "InvalidLevel", "InvalidPair", "InvalidNumber", "InvalidOutputs", "InvalidPlace", "InvalidSeen", "NothingToUndo", "TooMany", "InvalidText"]
def excB (K : PySem.W.Frag) : Bool := exNames.all fun x =>
  He.eqO (PySem.W.findIn K (.ref (He.ga K x)) "__getattribute__") (some (some (.builtin "BaseException.__getattribute__"))) && (He.eqO (PySem.W.findIn K (.ref (He.ga K x)) "__getattr__") (some none) && (decide (PySem.W.subIn K (.ref (He.ga K x)) (.type "BaseException") = some true) && (PySem.W.hasDictIn K (He.ga K x) &&
  (He.eqO (PySem.W.findIn K (.ref (He.ga K x)) "__class__") (some (some (.builtin "object.__class__"))) && (He.eqO (PySem.W.specialIn K (.builtin "object.__class__") "__get__") (some (some (.builtin "getset_descriptor.__get__"))) && (decide (PySem.W.takesIn K (.builtin "object.__class__") = some true) && (decide (PySem.W.mroIn K (He.ga K x) (.type "object") = some true) &&
  ((exNames.all fun y => decide (PySem.W.kitOne K (.ref (He.ga K x)) (.ref (He.ga K y)) = some (decide (x = y)))) && (decide (PySem.W.kitOne K (.ref (He.ga K x)) (.type "ValueError") = some true) && decide (PySem.W.exmOne K (.ref (He.ga K x)) (.ref (He.ga K "ChainError")) = some true))))))))))
/-- the tables' addresses -/
def tabA (K : PySem.W.Frag) (tf : List Str) : List Addr := tf.map fun q => (He.cT K (q, none)).2
def excT (tf : List Str) (K : PySem.W.Frag) : Bool := excB K && decide ((tabA K tf).Nodup)
abbrev tfD (tf : List Str) : List He.Defn := tf.map fun q => (q, none)
def picks (names : List Str) (o : Obj) : List Addr := match o.data with
  | .dict es _ => es.toList.flatMap fun e => match e.key with
    | .str x _ => (match names.contains x with
      | true => refV e.val
      | false => [])
    | _ => []
  | _ => []
def asP (g : Addr → Option Obj) (names : List Str) : Nat → List Addr
  | 0 => match g mainGlobals with
    | some o => picks names o
    | none => []
  | n + 1 => growD g (asP g names n)
def asQ (names : List Str) (n : Nat) (g : Addr → Option Obj) : List Addr := mainGlobals :: asP g names n
section
variable {as : (Addr → Option Obj) → List Addr} {fa : List Fa} {fn : List DefD} {ts : List Tab} {tf : List Defn} {ex : PySem.W.Frag → Bool}
def obsP (as : (Addr → Option Obj) → List Addr) (fa : List Fa) (fn : List DefD) (ts : List Tab) (tf : List Defn) (ex : PySem.W.Frag → Bool) (g : Addr → Option Obj) : AlX := (obsT fa fn ts (frT g (as g)), ex (frT g (as g)) && tabsB g tf (frT g (as g)))
theorem saysP_of {w : World} {h : Heap} (e : obsP as fa fn ts tf ex h.get? = valX fn ts w) : SaysX fa fn ts tf ex w h (frT h.get? (as h.get?)) := by
  have e1 : obsT fa fn ts (frT h.get? (as h.get?)) = valT fn ts w := congrArg (fun z : AlX => z.1) e
  have e2 : (ex (frT h.get? (as h.get?)) && tabsB h.get? tf (frT h.get? (as h.get?))) = true := congrArg (fun z : AlX => z.2) e
  obtain ⟨h1, h2⟩ := ba e2
  have key : ∀ p ∈ tf, PySem.W.codeHdIn (frT h.get? (as h.get?)) (cT (frT h.get? (as h.get?)) p).1 (cT (frT h.get? (as h.get?)) p).2 = true ∧ ∃ o, h.get? (cT (frT h.get? (as h.get?)) p).2 = some o ∧ emptyTab o = true := fun p hp => by
    obtain ⟨h3, h4⟩ := ba (List.all_eq_true.mp h2 p hp)
    refine ⟨h3, ?_⟩
    cases q : h.get? (cT (frT h.get? (as h.get?)) p).2 with
    | none => rw [q] at h4; cases h4
    | some o => rw [q] at h4; exact ⟨o, rfl, h4⟩
  refine ⟨e1, h1, fun p hp => (key p hp).1, fun p hp => ?_, fun p hp => ?_⟩
  · obtain ⟨_, o, q, z⟩ := key p hp
    exact frT_none q z
  · obtain ⟨_, o, q, z⟩ := key p hp
    rw [q, emptyTab_eq z]
def hookP (as : (Addr → Option Obj) → List Addr) (fa : List Fa) (fn : List DefD) (ts : List Tab) (tf : List Defn) (ex : PySem.W.Frag → Bool) : PySem.W.Hook where
  α := AlX
  obs := fun s => obsP as fa fn ts tf ex s.heap.get?
  val := fun w => valX fn ts w
  says := fun w h => ∃ K : PySem.W.Frag, K.In h ∧ SaysX fa fn ts tf ex w h K
  of := fun _ _ e => ⟨_, frT_in, saysP_of e⟩
  keeps := fun _ _ _ ⟨K, hK, c⟩ k => ⟨K, PySem.W.Frag.In.keeps hK k, ⟨c.t, c.more, c.hd, c.out, fun p hp => k _ _ (c.empty p hp)⟩⟩
theorem join_obs {α : Type} {E : Option α} {g : α → Addr → Option Obj} {w : World} (n m : Nat) (h1 : E.map (fun s => (fa.take n).all fun f => f.ok (frT (g s) (as (g s)))) = some true) (h2 : E.map (fun s => (fa.drop n).all fun f => f.ok (frT (g s) (as (g s)))) = some true)
    (h3 : E.map (fun s => (fn.take m).all fun d => d.ok (frT (g s) (as (g s)))) = some true) (h3' : E.map (fun s => (fn.drop m).all fun d => d.ok (frT (g s) (as (g s)))) = some true) (h4 : E.map (fun s => fn.map fun d => fnW (frT (g s) (as (g s))) d.at_) = some (fn.map DefD.val))
    (h5 : E.map (fun s => ex (frT (g s) (as (g s)))) = some true) (h6 : E.map (fun s => tabsB (g s) tf (frT (g s) (as (g s)))) = some true) : E.map (fun s => obsP as fa fn [] tf ex (g s)) = some (valX fn [] w) := by
  cases E with
  | none => cases h1
  | some s =>
    have h1 : ((fa.take n).all fun f => f.ok (frT (g s) (as (g s)))) = true := Option.some.inj h1
    have h2 : ((fa.drop n).all fun f => f.ok (frT (g s) (as (g s)))) = true := Option.some.inj h2
    have h3 : ((fn.take m).all fun d => d.ok (frT (g s) (as (g s)))) = true := Option.some.inj h3
    have h3' : ((fn.drop m).all fun d => d.ok (frT (g s) (as (g s)))) = true := Option.some.inj h3'
    have h4 : (fn.map fun d => fnW (frT (g s) (as (g s))) d.at_) = fn.map DefD.val := Option.some.inj h4
    have h5 : ex (frT (g s) (as (g s))) = true := Option.some.inj h5
    have h6 : tabsB (g s) tf (frT (g s) (as (g s))) = true := Option.some.inj h6
    have h7 : (fa.all fun f => f.ok (frT (g s) (as (g s)))) = true := by
      rw [← List.take_append_drop n fa, List.all_append, h1, h2]; rfl
    have h8 : (fn.all fun d => d.ok (frT (g s) (as (g s)))) = true := by
      rw [← List.take_append_drop m fn, List.all_append, h3, h3']; rfl
    show some (obsP as fa fn [] tf ex (g s)) = _
    unfold obsP obsT obsD valX valT valD
    rw [h7, h8, h4, h5, h6]
    rfl
end
end VC

set_option Elab.async false
set_option linter.all false
set_option maxRecDepth 100000
set_option maxHeartbeats 4000000
/-! ZL1: the head's facts of own classes: what the machine's isinstance, + ask; properties and their defs. -/
namespace VC
open PySem PySem.Spec PyProof.Rows L2 He
/-- a property of a class; its getter -/
structure PrpD where
  cls : Str
  prp : Str
  d : DefD
def prpP (K : PySem.W.Frag) (q : PrpD) : Addr := ma K (ga K q.cls) q.prp
def prpG (K : PySem.W.Frag) (q : PrpD) : Addr := match PySem.W.recIn K (prpP K q) "property" with
  | some (.ref g :: _) => g
  | _ => 0
def fnA (K : PySem.W.Frag) (a : Addr) : FnW := match K.lookup a with
  | some ⟨_, _, .func fd, _⟩ => some (fd.name, fd.qualname, fd.params, fd.body, fd.scope, fd.globals, fd.closure, fd.builtins)
  | _ => none
def recB (K : PySem.W.Frag) (p : Addr) : Bool := match PySem.W.recIn K p "property" with
  | some (.ref _ :: _) => true
  | _ => false
def PrpD.ok (K : PySem.W.Frag) (q : PrpD) : Bool := (eqO (PySem.W.findIn K (.ref (ga K q.cls)) q.prp) (some (some (.ref (prpP K q)))) && (eqO (PySem.W.specialIn K (.ref (prpP K q)) "__get__") (some (some (.builtin "property.__get__"))) &&
  (decide (PySem.W.takesIn K (.ref (prpP K q)) = some true) && recB K (prpP K q)))) && (PySem.W.keepIn K (.ref (prpG K q)) && (match K.lookup (prpG K q) with
    | some ⟨_, _, .func fd, _⟩ => PySem.W.codeIn K fd.code q.d.qual && (dflB K fd.defaults [] && kwdB K fd.kwdefaults [])
    | _ => false))
/-- what the machine asks of an own class -/
def ownB (K : PySem.W.Frag) (x : Str) : Bool := (eqO (PySem.W.findIn K (.ref (ga K x)) "__class__") (some (some (.builtin "object.__class__"))) && (eqO (PySem.W.specialIn K (.builtin "object.__class__") "__get__") (some (some (.builtin "getset_descriptor.__get__"))) &&
  (decide (PySem.W.takesIn K (.builtin "object.__class__") = some true) && decide (PySem.W.mroIn K (ga K x) (.type "object") = some true)))) && PySem.W.selfFirst K (ga K x)
def pfV (pf : List PrpD) : List FnW := pf.map fun q => q.d.val
def pfO (pf : List PrpD) (K : PySem.W.Frag) : List FnW := pf.map fun q => fnA K (prpG K q)
abbrev AlO : Type := AlX × List FnW
section
variable (as : (Addr → Option Obj) → List Addr) (fa : List Fa) (fn : List DefD) (tf : List Defn) (pf : List PrpD) (ex : PySem.W.Frag → Bool)
def obsO (g : Addr → Option Obj) : AlO := (obsP as fa fn [] tf ex g, pfO pf (frT g (as g)))
def hookO : PySem.W.Hook where
  α := AlO
  obs := fun s => obsO as fa fn tf pf ex s.heap.get?
  val := fun w => (valX fn [] w, pfV pf)
  says := fun w h => ∃ K : PySem.W.Frag, K.In h ∧ SaysX fa fn [] tf ex w h K ∧ pfO pf K = pfV pf
  of := fun w h e => ⟨_, frT_in, saysP_of (congrArg (fun z : AlO => z.1) e), congrArg (fun z : AlO => z.2) e⟩
  keeps := fun _ _ _ ⟨K, hK, c, e⟩ k => ⟨K, PySem.W.Frag.In.keeps hK k, ⟨c.t, c.more, c.hd, c.out, fun p hp => k _ _ (c.empty p hp)⟩, e⟩
variable {as fa fn tf pf ex}
theorem join_obsO {α : Type} {E : Option α} {g : α → Addr → Option Obj} {w : World} (h1 : E.map (fun s => obsP as fa fn [] tf ex (g s)) = some (valX fn [] w)) (h2 : E.map (fun s => pfO pf (frT (g s) (as (g s)))) = some (pfV pf)) :
    E.map (fun s => obsO as fa fn tf pf ex (g s)) = some ((hookO as fa fn tf pf ex).val w) := by
  cases E with
  | none => cases h1
  | some s =>
    have a1 : obsP as fa fn [] tf ex (g s) = valX fn [] w := Option.some.inj h1
    have a2 : pfO pf (frT (g s) (as (g s))) = pfV pf := Option.some.inj h2
    show some (obsO as fa fn tf pf ex (g s)) = _
    unfold obsO
    rw [a1, a2]
    rfl
end
end VC

set_option Elab.async false
set_option linter.all false
set_option maxRecDepth 100000
set_option maxHeartbeats 4000000
/-! ZL2: the head's facts of an own exception class made by super().__init__; what == and isinstance ask of a tuple. -/
namespace VC
open PySem PySem.Spec PyProof.Rows L2 He
/-- the addresses looked at: the statics too -/
def asU (names : List Str) (n : Nat) (g : Addr → Option Obj) : List Addr := cStatics :: asQ names n g
/-- an own exception class, the field its __init__ keeps, the main file, its __init__ -/
structure SupD where
  cls : Str
  fld : Str
  file : Str
  d : DefD
def supI (K : PySem.W.Frag) (q : SupD) : Addr := ma K (ga K q.cls) "__init__"
def fnC (K : PySem.W.Frag) (a : Addr) : Addr := match K.lookup a with
  | some ⟨_, _, .func fd, _⟩ => (match fd.closure with
    | [(_, c)] => c
    | _ => 0)
  | _ => 0
def fnK (K : PySem.W.Frag) (a : Addr) : Addr := match K.lookup a with
  | some ⟨_, _, .func fd, _⟩ => (match fd.code with
    | .ref c => c
    | _ => 0)
  | _ => 0
def suA (K : PySem.W.Frag) (a : Addr) : FnW := match K.lookup a with
  | some ⟨_, _, .func fd, _⟩ => some (fd.name, fd.qualname, fd.params, fd.body, fd.scope, fd.globals, fd.closure.map (fun x => (x.1, 0)), fd.builtins)
  | _ => none
def SupD.val (q : SupD) : FnW := some (q.d.name, q.d.qual, q.d.params, .stmts q.d.body, q.d.scope, mainGlobals, [("__class__", 0)], builtinsNs)
def oexC (K : PySem.W.Frag) (C : Addr) : Bool := match K.lookup C with
  | some ⟨.type "type", _, .cls cd, sl⟩ => (match cd.mro, sl.toList with
    | .ref C' :: bm, [_, _, _, _, some (.builtin n), _] => C' == C && (n == "ValueError.__new__" && (!cd.hasDel && (cd.hasDict && PySem.HandSPX.refsVE bm)))
    | _, _ => false)
  | _ => false
def oexB (K : PySem.W.Frag) (C : Addr) : Bool := oexC K C && (eqO (PySem.W.findIn K (.ref C) "__setattr__") (some (some (.builtin "object.__setattr__"))) && (decide (PySem.W.subIn K (.ref C) (.type "BaseException") = some true) && (decide (PySem.W.typeIn K (.ref C) = some (.type "type")) && PySem.W.keepIn K (.ref C))))
def fileB (K : PySem.W.Frag) (a : Addr) (file : Str) : Bool := match K.lookup a with
  | some ⟨_, _, .fields vs, _⟩ => (match (vs[2]? : Option Value) with
    | some (.str f _) => f == file
    | _ => false)
  | _ => false
def cellB (K : PySem.W.Frag) (a C : Addr) : Bool := match K.lookup a with
  | some ⟨_, _, .cell (some (.ref c)), _⟩ => c == C
  | _ => false
def fnB (K : PySem.W.Frag) (a : Addr) : Bool := match K.lookup a with
  | some ⟨_, _, .func fd, _⟩ => (match fd.defaults, fd.code, fd.closure with
    | .none, .ref _, [_] => true
    | _, _, _ => false)
  | _ => false
def SupD.ok (K : PySem.W.Frag) (q : SupD) : Bool := (oexB K (ga K q.cls) && (eqO (PySem.W.findIn K (.ref (ga K q.cls)) "__init__") (some (some (.ref (supI K q)))) && (decide (PySem.W.typeIn K (.ref (supI K q)) = some (.type "function")) && fnB K (supI K q)))) &&
  ((PySem.W.codeIn K (.ref (fnK K (supI K q))) q.d.qual && (fileB K (fnK K (supI K q)) q.file && cellB K (fnC K (supI K q)) (ga K q.cls))) &&
  (eqO (PySem.W.ks_superIn K (ga K q.cls) (ga K q.cls) "__init__") (some (some (.builtin "ValueError.__init__"))) && (decide (PySem.W.mroIn K (ga K q.cls) (.ref (ga K q.cls)) = some true) && (decide (PySem.W.subIn K (.ref (ga K q.cls)) (.type "ValueError") = some true) &&
  (eqO (PySem.W.nsIn K cStatics "thirdparty.any") (some none) && eqO (PySem.W.findIn K (.ref (ga K q.cls)) q.fld) (some none))))))
/-- what == and isinstance ask of a tuple and an own class -/
def ownTB (K : PySem.W.Frag) (x : Str) : Bool := decide (PySem.W.kitOne K (.type "tuple") (.ref (ga K x)) = some false) && decide (PySem.W.subIn K (.type "tuple") (.ref (ga K x)) = some false)
def suO (su : List SupD) (K : PySem.W.Frag) : List FnW := su.map fun q => suA K (supI K q)
def suV (su : List SupD) : List FnW := su.map SupD.val
abbrev AlU : Type := AlO × List FnW
section
variable (as : (Addr → Option Obj) → List Addr) (fa : List Fa) (fn : List DefD) (tf : List Defn) (pf : List PrpD) (su : List SupD) (ex : PySem.W.Frag → Bool)
def obsU (g : Addr → Option Obj) : AlU := (obsO as fa fn tf pf ex g, suO su (frT g (as g)))
def hookU : PySem.W.Hook where
  α := AlU
  obs := fun s => obsU as fa fn tf pf su ex s.heap.get?
  val := fun w => ((valX fn [] w, pfV pf), suV su)
  says := fun w h => ∃ K : PySem.W.Frag, K.In h ∧ SaysX fa fn [] tf ex w h K ∧ pfO pf K = pfV pf ∧ suO su K = suV su
  of := fun w h e => ⟨_, frT_in, saysP_of (congrArg (fun z : AlU => z.1.1) e), congrArg (fun z : AlU => z.1.2) e, congrArg (fun z : AlU => z.2) e⟩
  keeps := fun _ _ _ ⟨K, hK, c, e⟩ k => ⟨K, PySem.W.Frag.In.keeps hK k, ⟨c.t, c.more, c.hd, c.out, fun p hp => k _ _ (c.empty p hp)⟩, e⟩
variable {as fa fn tf pf su ex}
theorem obsU_eq {g : Addr → Option Obj} {s : Shared} (h : ∀ a, g a = s.heap.get? a) : obsU as fa fn tf pf su ex g = (hookU as fa fn tf pf su ex).obs s := by
  have e : g = s.heap.get? := funext h
  rw [e] <;> rfl
theorem join_obsU {α : Type} {E : Option α} {g : α → Addr → Option Obj} {w : World} (h1 : E.map (fun s => obsO as fa fn tf pf ex (g s)) = some (valX fn [] w, pfV pf)) (h2 : E.map (fun s => suO su (frT (g s) (as (g s)))) = some (suV su)) :
    E.map (fun s => obsU as fa fn tf pf su ex (g s)) = some ((hookU as fa fn tf pf su ex).val w) := by
  cases E with
  | none => cases h1
  | some s =>
    have a1 : obsO as fa fn tf pf ex (g s) = (valX fn [] w, pfV pf) := Option.some.inj h1
    have a2 : suO su (frT (g s) (as (g s))) = suV su := Option.some.inj h2
    show some (obsU as fa fn tf pf su ex (g s)) = _
    unfold obsU
    rw [a1, a2]
    rfl
end
theorem sup_at {K : PySem.W.Frag} {su : List SupD} (e : suO su K = suV su) (i : Nat) {q : SupD} (h : su[i]? = some q) : suA K (supI K q) = q.val := by
  have e2 := congrArg (fun l => l[i]?) e
  unfold suO suV at e2
  simp only [List.getElem?_map, h, Option.map_some, Option.some.injEq] at e2
  exact e2
end VC

set_option Elab.async false
set_option linter.all false
set_option maxRecDepth 100000
set_option maxHeartbeats 4000000
/-! ZL3: the head's facts of a class that is caught by name and whose field is read. -/
namespace VC
open PySem PySem.Spec PyProof.Rows L2 He
def xfsB (K : PySem.W.Frag) (x fld : Str) : Bool :=
  (eqO (PySem.W.findIn K (.ref (ga K x)) "__getattribute__") (some (some (.builtin "BaseException.__getattribute__"))) && (eqO (PySem.W.findIn K (.ref (ga K x)) "__getattr__") (some none) && (decide (PySem.W.subIn K (.ref (ga K x)) (.type "BaseException") = some true) && PySem.W.hasDictIn K (ga K x)))) &&
  (eqO (PySem.W.findIn K (.ref (ga K x)) fld) (some none) && decide (PySem.W.exmOne K (.ref (ga K x)) (.ref (ga K x)) = some true))
end VC

set_option Elab.async false
set_option linter.all false
set_option maxRecDepth 100000
set_option maxHeartbeats 4000000
/-! H_k23: the names, the defs, the run of the top. -/
namespace VC
namespace K23
open PySem PySem.Spec PyProof.Rows L2
def top (i : Nat) : Stmt := PySem.Challenge.pw_slewchains_k23_chains_written_and_read.main.body.getD i (.Pass ⟨0, 0, 0, 0⟩)
def cbody : Stmt → Nat → Stmt
  | .ClassDef _ _ _ b _ _ _ _ _ _ _, i => b.getD i (.Pass ⟨0, 0, 0, 0⟩)
  | _, _ => .Pass ⟨0, 0, 0, 0⟩
abbrev s_is_from : Stmt := top 19
abbrev s_is_stage_of : Stmt := top 20
abbrev s_keeping : Stmt := top 21
abbrev s_is_chain_of : Stmt := top 22
abbrev s_need_chain : Stmt := top 23
abbrev s_stage_text : Stmt := top 26
abbrev s_chain_text : Stmt := top 27
abbrev s_number_in : Stmt := top 28
abbrev s_stage_in : Stmt := top 29
abbrev s_chain_in : Stmt := top 30
abbrev s_read_chains : Stmt := top 31
abbrev s__law_deck : Stmt := top 33
abbrev s__law_pick : Stmt := top 34
abbrev s__law_one : Stmt := top 35
abbrev s__law_name_of : Stmt := top 36
abbrev s__law_try : Stmt := top 37
abbrev s__law_sort : Stmt := top 38
abbrev s__law_same : Stmt := top 39
abbrev s__law_stage : Stmt := top 40
abbrev s__law_chain : Stmt := top 41
abbrev s__law_text : Stmt := top 43
abbrev s__law_stages : Stmt := top 44
abbrev s__law_read : Stmt := top 45
abbrev s__law_due : Stmt := top 46
abbrev s__law_told : Stmt := top 47
abbrev s_law : Stmt := top 48
abbrev s_InvalidText_init : Stmt := cbody (top 13) 0
def d_is_from : He.DefD := ⟨("is_from", none), "is_from", "is_from", defArgs s_is_from, defBody s_is_from, defScope s_is_from, [], []⟩
def d_is_stage_of : He.DefD := ⟨("is_stage_of", none), "is_stage_of", "is_stage_of", defArgs s_is_stage_of, defBody s_is_stage_of, defScope s_is_stage_of, [], []⟩
def d_keeping : He.DefD := ⟨("keeping", none), "keeping", "keeping", defArgs s_keeping, defBody s_keeping, defScope s_keeping, [], []⟩
def d_is_chain_of : He.DefD := ⟨("is_chain_of", none), "is_chain_of", "is_chain_of", defArgs s_is_chain_of, defBody s_is_chain_of, defScope s_is_chain_of, [], []⟩
def d_need_chain : He.DefD := ⟨("need_chain", none), "need_chain", "need_chain", defArgs s_need_chain, defBody s_need_chain, defScope s_need_chain, [], []⟩
def d_stage_text : He.DefD := ⟨("stage_text", none), "stage_text", "stage_text", defArgs s_stage_text, defBody s_stage_text, defScope s_stage_text, [], []⟩
def d_chain_text : He.DefD := ⟨("chain_text", none), "chain_text", "chain_text", defArgs s_chain_text, defBody s_chain_text, defScope s_chain_text, [], []⟩
def d_number_in : He.DefD := ⟨("number_in", none), "number_in", "number_in", defArgs s_number_in, defBody s_number_in, defScope s_number_in, [], []⟩
def d_stage_in : He.DefD := ⟨("stage_in", none), "stage_in", "stage_in", defArgs s_stage_in, defBody s_stage_in, defScope s_stage_in, [], []⟩
def d_chain_in : He.DefD := ⟨("chain_in", none), "chain_in", "chain_in", defArgs s_chain_in, defBody s_chain_in, defScope s_chain_in, [], []⟩
def d_read_chains : He.DefD := ⟨("read_chains", none), "read_chains", "read_chains", defArgs s_read_chains, defBody s_read_chains, defScope s_read_chains, [], []⟩
def d__law_deck : He.DefD := ⟨("_law_deck", none), "_law_deck", "_law_deck", defArgs s__law_deck, defBody s__law_deck, defScope s__law_deck, [], []⟩
def d__law_pick : He.DefD := ⟨("_law_pick", none), "_law_pick", "_law_pick", defArgs s__law_pick, defBody s__law_pick, defScope s__law_pick, [], []⟩
def d__law_one : He.DefD := ⟨("_law_one", none), "_law_one", "_law_one", defArgs s__law_one, defBody s__law_one, defScope s__law_one, [], []⟩
def d__law_name_of : He.DefD := ⟨("_law_name_of", none), "_law_name_of", "_law_name_of", defArgs s__law_name_of, defBody s__law_name_of, defScope s__law_name_of, [], []⟩
def d__law_try : He.DefD := ⟨("_law_try", none), "_law_try", "_law_try", defArgs s__law_try, defBody s__law_try, defScope s__law_try, [], []⟩
def d__law_sort : He.DefD := ⟨("_law_sort", none), "_law_sort", "_law_sort", defArgs s__law_sort, defBody s__law_sort, defScope s__law_sort, [], []⟩
def d__law_same : He.DefD := ⟨("_law_same", none), "_law_same", "_law_same", defArgs s__law_same, defBody s__law_same, defScope s__law_same, [], []⟩
def d__law_stage : He.DefD := ⟨("_law_stage", none), "_law_stage", "_law_stage", defArgs s__law_stage, defBody s__law_stage, defScope s__law_stage, [], []⟩
def d__law_chain : He.DefD := ⟨("_law_chain", none), "_law_chain", "_law_chain", defArgs s__law_chain, defBody s__law_chain, defScope s__law_chain, [], []⟩
def d__law_text : He.DefD := ⟨("_law_text", none), "_law_text", "_law_text", defArgs s__law_text, defBody s__law_text, defScope s__law_text, [], []⟩
def d__law_stages : He.DefD := ⟨("_law_stages", none), "_law_stages", "_law_stages", defArgs s__law_stages, defBody s__law_stages, defScope s__law_stages, [], []⟩
def d__law_read : He.DefD := ⟨("_law_read", none), "_law_read", "_law_read", defArgs s__law_read, defBody s__law_read, defScope s__law_read, [], []⟩
def d__law_due : He.DefD := ⟨("_law_due", none), "_law_due", "_law_due", defArgs s__law_due, defBody s__law_due, defScope s__law_due, [], []⟩
def d__law_told : He.DefD := ⟨("_law_told", none), "_law_told", "_law_told", defArgs s__law_told, defBody s__law_told, defScope s__law_told, [], []⟩
def d_law : He.DefD := ⟨("law", none), "law", "law", defArgs s_law, defBody s_law, defScope s_law, [], []⟩
def fn : List He.DefD := [d_is_from, d_is_stage_of, d_keeping, d_is_chain_of, d_need_chain, d_stage_text, d_chain_text, d_number_in, d_stage_in, d_chain_in, d_read_chains, d__law_deck, d__law_pick, d__law_one, d__law_name_of, d__law_try, d__law_sort, d__law_same, d__law_stage, d__law_chain, d__law_text, d__law_stages, d__law_read, d__law_due, d__law_told, d_law]
def fileK : Str := PySem.Challenge.pw_slewchains_k23_chains_written_and_read.main.file
def u_InvalidText : SupD := ⟨"InvalidText", "line", fileK, ⟨("InvalidText", some "__init__"), "__init__", "InvalidText.__init__", defArgs s_InvalidText_init, defBody s_InvalidText_init, defScope s_InvalidText_init, [], []⟩⟩
def su : List SupD := [u_InvalidText]
def fa : List He.Fa := exNames.map He.Fa.glo ++ (([.glo "is_from", .glo "is_stage_of", .glo "keeping", .glo "is_chain_of", .glo "need_chain", .glo "stage_text", .glo "chain_text", .glo "number_in", .glo "stage_in", .glo "chain_in", .glo "read_chains", .glo "_law_deck", .glo "_law_pick", .glo "_law_one", .glo "_law_name_of", .glo "_law_try", .glo "_law_sort", .glo "_law_same", .glo "_law_stage", .glo "_law_chain", .glo "_law_text", .glo "_law_stages", .glo "_law_read", .glo "_law_due", .glo "_law_told", .glo "law", .glo "ChainError", .free "len", .free "min", .free "max"] : List He.Fa) ++ ([.free "int", .free "isinstance", .free "tuple", .free "list", .free "all", .free "sum", .free "bool", .free "str", .free "range", .free "zip", .free "enumerate", .free "sorted", .free "set", .free "dict", .free "abs", .free "ValueError", .free "super", .str "FIGURES" "0123456789", .int "MOST_KEEPING" 2, .int "MOST_STAGES" 3, .int "MOST_TOP" 5, .int "MOST_WAIT" 2] : List He.Fa))
def tf : List Str := ["law"]
def pf : List PrpD := []
def ex (K : PySem.W.Frag) : Bool := excB K && xfsB K "InvalidText" "line" && (((su.all fun q => q.ok K) && pf.all (fun q => q.ok K)) && decide ((tabA K tf).Nodup))
abbrev R : PySem.W.OpenRow := PySem.W.OpenLaw.row PySem.Challenge.rw_slewchains_k23_chains_written_and_read
def names : List Str := (["InvalidChain", "InvalidStage", "InvalidSignal", "InvalidLevel", "InvalidPair", "InvalidNumber", "InvalidOutputs", "InvalidPlace", "InvalidSeen", "NothingToUndo", "TooMany", "InvalidText", "is_from", "is_stage_of", "keeping", "is_chain_of", "need_chain", "stage_text", "chain_text", "number_in", "stage_in", "chain_in", "read_chains", "_law_deck", "_law_pick"] : List Str) ++ (["_law_one", "_law_name_of", "_law_try", "_law_sort", "_law_same", "_law_stage", "_law_chain", "_law_text", "_law_stages", "_law_read", "_law_due", "_law_told", "law", "ChainError", "FIGURES", "MOST_KEEPING", "MOST_STAGES", "MOST_TOP", "MOST_WAIT"] : List Str)
abbrev hk : PySem.W.Hook := hookU (asU names 4) fa fn (tfD tf) pf su ex
def ob (s : PySem.W.SharedT) : AlU := obsU (asU names 4) fa fn (tfD tf) pf su ex (HandSHeadRun.getT s)
theorem ob_eq (s : PySem.W.SharedT) : ob s = hk.obs s.abs := obsU_eq (HandSHeadRun.getT_eq s)
def loose : List PySem.Str := (["ChainError", "InvalidChain", "InvalidStage", "InvalidSignal", "InvalidLevel", "InvalidPair", "InvalidNumber", "InvalidOutputs", "InvalidPlace", "InvalidSeen", "NothingToUndo", "TooMany", "InvalidText", "MOST_TOP", "MOST_STAGES", "MOST_KEEPING", "MOST_WAIT", "is_from", "is_stage_of", "keeping", "is_chain_of", "need_chain", "FIGURES", "stage_text", "chain_text", "number_in", "stage_in", "chain_in", "read_chains", "_law_deck"] : List PySem.Str) ++ (["_law_pick", "_law_one", "_law_name_of", "_law_try", "_law_sort", "_law_same", "_law_stage", "_law_chain", "_law_levels", "_law_text", "_law_stages", "_law_read", "_law_due", "_law_told"] : List PySem.Str)
end K23
end VC
namespace HandSHeadRun
open PySem PySem.W PySem.Calls PyProof.Rows
theorem tA (w : World) : ∀ os : OsState, (endF (stepQ (denQ tabQ) VC.K23.R.prog w) 20000 VC.K23.R.prog w os).map (fun s => looksF VC.K23.R.prog (boot_heap w.params) s.abs) = some (true) := by
  intro os
  kernel_rfl
theorem tB (w : World) : ∀ os : OsState, (endF (stepQ (denQ tabQ) VC.K23.R.prog w) 20000 VC.K23.R.prog w os).map (fun s => seenQ (PySem.W.view VC.K23.R.prog [48]) VC.K23.loose (importedModules VC.K23.R.prog.main.body) (fun s => xlAt (PySem.W.view VC.K23.R.prog [48]) [] s && recOk VC.K23.R.toRowW.records s) s.abs) = some (openGood (PySem.W.view VC.K23.R.prog [48]) VC.K23.loose) := by
  intro os
  kernel_rfl
theorem tC1 (w : World) : ∀ os : OsState, (endF (stepQ (denQ tabQ) VC.K23.R.prog w) 20000 VC.K23.R.prog w os).map (fun s => (VC.K23.fa.take 32).all fun f => f.ok (He.frT (HandSHeadRun.getT s) (VC.asU VC.K23.names 4 (HandSHeadRun.getT s)))) = some (true) := by
  intro os
  kernel_rfl
theorem tC2 (w : World) : ∀ os : OsState, (endF (stepQ (denQ tabQ) VC.K23.R.prog w) 20000 VC.K23.R.prog w os).map (fun s => (VC.K23.fa.drop 32).all fun f => f.ok (He.frT (HandSHeadRun.getT s) (VC.asU VC.K23.names 4 (HandSHeadRun.getT s)))) = some (true) := by
  intro os
  kernel_rfl
theorem tC3 (w : World) : ∀ os : OsState, (endF (stepQ (denQ tabQ) VC.K23.R.prog w) 20000 VC.K23.R.prog w os).map (fun s => (VC.K23.fn.take 13).all fun d => d.ok (He.frT (HandSHeadRun.getT s) (VC.asU VC.K23.names 4 (HandSHeadRun.getT s)))) = some (true) := by
  intro os
  kernel_rfl
theorem tC4 (w : World) : ∀ os : OsState, (endF (stepQ (denQ tabQ) VC.K23.R.prog w) 20000 VC.K23.R.prog w os).map (fun s => (VC.K23.fn.drop 13).all fun d => d.ok (He.frT (HandSHeadRun.getT s) (VC.asU VC.K23.names 4 (HandSHeadRun.getT s)))) = some (true) := by
  intro os
  kernel_rfl
theorem tC5 (w : World) : ∀ os : OsState, (endF (stepQ (denQ tabQ) VC.K23.R.prog w) 20000 VC.K23.R.prog w os).map (fun s => VC.K23.fn.map fun d => He.fnW (He.frT (HandSHeadRun.getT s) (VC.asU VC.K23.names 4 (HandSHeadRun.getT s))) d.at_) = some (VC.K23.fn.map He.DefD.val) := by
  intro os
  kernel_rfl
theorem tC6 (w : World) : ∀ os : OsState, (endF (stepQ (denQ tabQ) VC.K23.R.prog w) 20000 VC.K23.R.prog w os).map (fun s => VC.K23.ex (He.frT (HandSHeadRun.getT s) (VC.asU VC.K23.names 4 (HandSHeadRun.getT s)))) = some (true) := by
  intro os
  kernel_rfl
theorem tC7 (w : World) : ∀ os : OsState, (endF (stepQ (denQ tabQ) VC.K23.R.prog w) 20000 VC.K23.R.prog w os).map (fun s => He.tabsB (HandSHeadRun.getT s) (VC.tfD VC.K23.tf) (He.frT (HandSHeadRun.getT s) (VC.asU VC.K23.names 4 (HandSHeadRun.getT s)))) = some (true) := by
  intro os
  kernel_rfl
theorem tC8 (w : World) : ∀ os : OsState, (endF (stepQ (denQ tabQ) VC.K23.R.prog w) 20000 VC.K23.R.prog w os).map (fun s => VC.pfO VC.K23.pf (He.frT (HandSHeadRun.getT s) (VC.asU VC.K23.names 4 (HandSHeadRun.getT s)))) = some (VC.pfV VC.K23.pf) := by
  intro os
  kernel_rfl
theorem tC9 (w : World) : ∀ os : OsState, (endF (stepQ (denQ tabQ) VC.K23.R.prog w) 20000 VC.K23.R.prog w os).map (fun s => VC.suO VC.K23.su (He.frT (HandSHeadRun.getT s) (VC.asU VC.K23.names 4 (HandSHeadRun.getT s)))) = some (VC.suV VC.K23.su) := by
  intro os
  kernel_rfl
theorem tC (w : World) : ∀ os : OsState, (endF (stepQ (denQ tabQ) VC.K23.R.prog w) 20000 VC.K23.R.prog w os).map (fun s => VC.K23.ob s) = some (VC.K23.hk.val w) := fun os => VC.join_obsU (VC.join_obsO (VC.join_obs (as := VC.asU VC.K23.names 4) (g := HandSHeadRun.getT) 32 13 (tC1 w os) (tC2 w os) (tC3 w os) (tC4 w os) (tC5 w os) (tC6 w os) (tC7 w os)) (tC8 w os)) (tC9 w os)
theorem join3 {α β γ δ : Type} {E : Option α} {f : α → β} {g : α → γ} {h : α → δ} {a : β} {b : γ} {c : δ} (h1 : E.map f = some a) (h2 : E.map g = some b) (h3 : E.map h = some c) : E.map (fun s => (f s, g s, h s)) = some (a, b, c) := by
  cases E with
  | none => cases h1
  | some x =>
    cases h1
    cases h2
    cases h3
    rfl
theorem runAll (w : World) : RunEq VC.K23.R (PySem.W.view VC.K23.R.prog [48]) VC.K23.hk VC.K23.ob 20000 VC.K23.loose w := fun os => join3 (tA w os) (tB w os) (tC w os)
end HandSHeadRun
namespace VC
namespace K23
open PySem PySem.Spec PyProof.Rows L2
theorem run (w : World) : HandSHeadRun.RunEq R (PySem.W.view R.prog [48]) hk ob 20000 loose w := HandSHeadRun.runAll w
end K23
end VC

set_option Elab.async false
set_option linter.all false
set_option maxRecDepth 100000
set_option maxHeartbeats 4000000
/-! VA: data D, how it lies in the heap, the state of a body, the judgements. -/
namespace VC
open PySem PySem.Spec PyProof.Rows L2

/-- data: what a value is, whatever lies where -/
inductive D where
  | non | bl (b : Bool) | int (i : Int) | str (x : Str)
  | tup (xs : List D) | lst (xs : List D) | dct (ks vs : List D)
  | ref (k : Nat) | fn (x : Str) | kst (xs : List D)
  | opq
/-- what a mutable object holds -/
inductive M where
  | lst (xs : List D) | dct (ks vs : List D)
  | ins (C : Str) (ns : List Str) (xs : List D) | tbl (q : Str)
@[reducible] def M.d : M → D
  | .lst xs => .lst xs
  | .dct ks vs => .dct ks vs
  | .ins _ _ _ => .opq
  | .tbl _ => .opq
/-- a value, or a mutable object that nobody else holds -/
inductive T where
  | val (d : D) | own (m : M)
@[reducible] def T.d : T → D
  | .val d => d
  | .own m => m.d
abbrev VEnv := List (Option T)
abbrev Sto := List M

mutual
/-- what a datum is as a key of a dict -/
def D.key : D → Option NestedKey
  | .non => some .none
  | .bl b => some (.num (if b = true then 1 else 0))
  | .int i => some (.num i)
  | .str x => some (.text x)
  | .tup xs => (D.keys xs).map .tup
  | .lst _ => none
  | .dct _ _ => none
  | .ref _ => none
  | .fn _ => none
  | .kst _ => none
  | .opq => none
def D.keys : List D → Option (List NestedKey)
  | [] => some []
  | x :: xs => match D.key x, D.keys xs with
    | some k, some ks => some (k :: ks)
    | _, _ => none
end

mutual
/-- a datum that may be a key: no bool, no list, of depth n at most -/
def kok : D → Nat → Bool
  | .non, _ => true
  | .int _, _ => true
  | .str _, _ => true
  | .tup xs, n => match n with
    | 0 => false
    | n + 1 => koks xs n
  | .bl _, _ => false
  | .lst _, _ => false
  | .dct _ _, _ => false
  | .ref _, _ => false
  | .fn _, _ => false
  | .kst _, _ => false
  | .opq, _ => false
def koks : List D → Nat → Bool
  | [], _ => true
  | x :: xs, n => kok x n && koks xs n
end
mutual
theorem kok_key : ∀ (d : D) (n : Nat), kok d n = true → ∃ k, D.key d = some k ∧ k.depth ≤ n
  | .non, n, _ => ⟨_, rfl, Nat.zero_le _⟩
  | .int _, n, _ => ⟨_, rfl, Nat.zero_le _⟩
  | .str _, n, _ => ⟨_, rfl, Nat.zero_le _⟩
  | .tup xs, n, h => by
    cases n with
    | zero => simp [kok] at h
    | succ n =>
      obtain ⟨ks, h1, h2⟩ := koks_key xs n (by simpa [kok] using h)
      exact ⟨.tup ks, by simp [D.key, h1], by show NestedKey.depthAll ks + 1 ≤ n + 1; omega⟩
  | .bl _, _, h => by simp [kok] at h
  | .lst _, _, h => by simp [kok] at h
  | .dct _ _, _, h => by simp [kok] at h
  | .ref _, _, h => by simp [kok] at h
  | .fn _, _, h => by simp [kok] at h
  | .kst _, _, h => by simp [kok] at h
  | .opq, _, h => by simp [kok] at h
theorem koks_key : ∀ (ds : List D) (n : Nat), koks ds n = true → ∃ ks, D.keys ds = some ks ∧ NestedKey.depthAll ks ≤ n
  | [], n, _ => ⟨[], rfl, Nat.zero_le _⟩
  | x :: xs, n, h => by
    simp only [koks, Bool.and_eq_true] at h
    obtain ⟨k, h1, h2⟩ := kok_key x n h.1
    obtain ⟨ks, h3, h4⟩ := koks_key xs n h.2
    exact ⟨k :: ks, by simp [D.keys, h1, h3], Nat.max_le.mpr ⟨h2, h4⟩⟩
end
mutual
theorem key_inj : ∀ (d e : D) (n m : Nat), kok d n = true → kok e m = true → D.key d = D.key e → d = e
  | .non, e, _, _, _, h, q => by
    cases e with
    | non => rfl
    | int _ => simp [D.key] at q
    | str _ => simp [D.key] at q
    | tup ys => simp only [D.key] at q; cases hk : D.keys ys <;> simp [hk] at q
    | _ => simp [kok] at h
  | .int i, e, _, _, _, h, q => by
    cases e with
    | non => simp [D.key] at q
    | int j => simp only [D.key, Option.some.injEq, NestedKey.num.injEq, NestedKey.text.injEq] at q; rw [q]
    | str _ => simp [D.key] at q
    | tup ys => simp only [D.key] at q; cases hk : D.keys ys <;> simp [hk] at q
    | _ => simp [kok] at h
  | .str i, e, _, _, _, h, q => by
    cases e with
    | non => simp [D.key] at q
    | int _ => simp [D.key] at q
    | str j => simp only [D.key, Option.some.injEq, NestedKey.num.injEq, NestedKey.text.injEq] at q; rw [q]
    | tup ys => simp only [D.key] at q; cases hk : D.keys ys <;> simp [hk] at q
    | _ => simp [kok] at h
  | .tup xs, e, n, m, k, h, q => by
    cases n with
    | zero => simp [kok] at k
    | succ n =>
      cases e with
      | tup ys =>
        cases m with
        | zero => simp [kok] at h
        | succ m =>
          simp only [kok] at k h
          obtain ⟨ks, h1, _⟩ := koks_key xs n k
          obtain ⟨ls, h2, _⟩ := koks_key ys m h
          have q' : ks = ls := by simpa [D.key, h1, h2] using q
          rw [keys_inj xs ys n m k h (by rw [h1, h2, q'])]
      | non => simp [D.key] at q
      | int _ => simp [D.key] at q
      | str _ => simp [D.key] at q
      | _ => simp [kok] at h
  | .bl _, _, _, _, k, _, _ => by simp [kok] at k
  | .lst _, _, _, _, k, _, _ => by simp [kok] at k
  | .dct _ _, _, _, _, k, _, _ => by simp [kok] at k
  | .ref _, _, _, _, k, _, _ => by simp [kok] at k
  | .fn _, _, _, _, k, _, _ => by simp [kok] at k
  | .kst _, _, _, _, k, _, _ => by simp [kok] at k
  | .opq, _, _, _, k, _, _ => by simp [kok] at k
theorem keys_inj : ∀ (ds es : List D) (n m : Nat), koks ds n = true → koks es m = true → D.keys ds = D.keys es → ds = es
  | [], es, _, m, _, h, q => by
    cases es with
    | nil => rfl
    | cons y ys =>
      obtain ⟨ls, h2, _⟩ := koks_key (y :: ys) m h
      rw [h2] at q
      have q' : ls = [] := by simpa [D.keys] using q.symm
      subst q'
      simp only [D.keys] at h2
      split at h2 <;> simp at h2
  | x :: xs, es, n, m, k, h, q => by
    cases es with
    | nil =>
      obtain ⟨ls, h2, _⟩ := koks_key (x :: xs) n k
      rw [h2] at q
      have q' : ls = [] := by simpa [D.keys] using q
      subst q'
      simp only [D.keys] at h2
      split at h2 <;> simp at h2
    | cons y ys =>
      simp only [koks, Bool.and_eq_true] at k h
      obtain ⟨a, a1, _⟩ := kok_key x n k.1
      obtain ⟨as, a2, _⟩ := koks_key xs n k.2
      obtain ⟨b, b1, _⟩ := kok_key y m h.1
      obtain ⟨bs, b2, _⟩ := koks_key ys m h.2
      simp only [D.keys, a1, a2, b1, b2, Option.some.injEq, List.cons.injEq] at q
      rw [key_inj x y n m k.1 h.1 (by rw [a1, b1, q.1]), keys_inj xs ys n m k.2 h.2 (by rw [a2, b2, q.2])]
end
/-- the name of a lambda within the def q -/
def lamQ (q : Str) : Str := (q ++ ".<locals>.") ++ "<lambda>"
def DictAt (a : Addr) (q : List DictEntry × Nat) : Heap → Prop := fun h => ∃ o, h.get? a = some o ∧ o.ExactDict ∧ o.data = .dict q.1.toArray q.2

/-- the ghosts: the lists and dicts that nobody will change; where the store's objects lie -/
structure Gh where
  F : Addr → Prop
  ρ : List Addr

/-- what stays fixed: the world's parameters, the module's own objects -/
abbrev WK := World × PySem.W.Frag
abbrev _root_.L2.Cx.wk (X : L2.Cx) : WK := (X.w, X.K)
/-- a list that nobody changes: frozen in H, or one of the module's -/
def LsA (w : WK) (g : Gh) (H : Hp) (a : Addr) (xs : List V) : Prop := (g.F a ∧ Rd H a (.lst xs)) ∨
  ∃ (o : Obj) (its : Array Value) (n : Nat), w.2.lookup a = some o ∧ o.cls = .type "list" ∧ o.dict = none ∧ o.data = .seq its n ∧ its.size ≤ sizeLine ∧ Vals xs its.toList
theorem LsA.sq {w : WK} {g : Gh} {H : Hp} {a : Addr} {xs : List V} (h : LsA w g H a xs) : SqL w.2 H a xs := h.imp (fun h => h.2) id
section
variable (mg : Str → Option Value) (w : WK) (g : Gh) (H : Hp)
mutual
inductive Rep : D → V → Prop
  | non : Rep .non .non
  | bl (b : Bool) : Rep (.bl b) (.bl b)
  | int (i : Int) : Rep (.int i) (.int i)
  | str (x : Str) : Rep (.str x) (.str x)
  | tup {a vs ds} : H a = some (.tup vs) → RepAll ds vs → Rep (.tup ds) (.ref a)
  | lst {a vs ds} : g.F a → Rd H a (.lst vs) → RepAll ds vs → Rep (.lst ds) (.ref a)
  | dct {a ks ds es ep} : g.F a → H a = some (.ext (DictAt a (es, ep))) → (a == sysModules) = false → RepEs ks ds es → (ks.map D.key).Nodup → Rep (.dct ks ds) (.ref a)
  | ref {k a} : g.ρ[k]? = some a → Rep (.ref k) (.ref a)
  | fn {x f} : mg x = some (.ref f) → Rep (.fn x) (.ref f)
  | kst {a vs ds} : LsA w g H a vs → RepAll ds vs → Rep (.kst ds) (.ref a)
  | opq {a} : Rep .opq (.ref a)
inductive RepAll : List D → List V → Prop
  | nil : RepAll [] []
  | cons {d v ds vs} : Rep d v → RepAll ds vs → RepAll (d :: ds) (v :: vs)
inductive RepEs : List D → List D → List DictEntry → Prop
  | nil : RepEs [] [] []
  | cons {k kv d dv ks ds e es nk} : Rep k kv → RelV kv e.key → Rep d dv → RelV dv e.val → kok k 8 = true → D.key k = some nk → e.hash = nk.hash w.1 → RepEs ks ds es → RepEs (k :: ks) (d :: ds) (e :: es)
end
def RepM : M → Addr → Prop
  | .lst ds, a => ∃ vs, H a = some (.lst vs) ∧ RepAll mg w g H ds vs
  | .dct ks ds, a => ∃ es ep, H a = some (.ext (DictAt a (es, ep))) ∧ (a == sysModules) = false ∧ RepEs mg w g H ks ds es ∧ (ks.map D.key).Nodup
  | .ins C ns xs, a => ∃ (Ca dx : Addr) (vs : List V), mg C = some (.ref Ca) ∧ H a = some (.ins Ca dx (ns.zip vs)) ∧ ns.length = xs.length ∧ ns.Nodup ∧ RepAll mg w g H xs vs
  | .tbl q, a => a = (He.cT w.2 (q, none)).2 ∧ ∃ ps : Array Value, H a = some (.tbl ps) ∧ TriplesOk ps.toList ∧ ∀ (pos : Pos) (cv : Value), codeAmong pos ps.toList = some cv → ∃ c, cv = .ref c ∧ g.F c ∧ H c = some (LamX.CodeO c (lamQ q))
structure StoOk (S : Sto) : Prop where
  len : g.ρ.length = S.length
  nd : g.ρ.Nodup
  at_ : ∀ (k : Nat) (a : Addr) (m : M), g.ρ[k]? = some a → S[k]? = some m → RepM mg w g H m a
  nF : ∀ a ∈ g.ρ, ¬ g.F a
  tr : ∀ a, g.F a → ∃ o, H a = some o
end

/-- what stays through statements -/
structure Fz (g : Gh) (H : Hp) (g' : Gh) (H' : Hp) : Prop where
  tup : ∀ a vs, H a = some (.tup vs) → H' a = some (.tup vs)
  frz : ∀ a, g.F a → H' a = H a
  F : ∀ a, g.F a → g'.F a
  ρ : ∃ t, g'.ρ = g.ρ ++ t
/-- what stays through expressions, calls: all but the store -/
structure Stp (g : Gh) (H : Hp) (g' : Gh) (H' : Hp) : Prop extends Fz g H g' H' where
  oth : ∀ a o, H a = some o → a ∉ g.ρ → H' a = some o
  rN : ∀ a ∈ g'.ρ, a ∈ g.ρ ∨ H a = none
theorem Fz.refl (g : Gh) (H : Hp) : Fz g H g H := ⟨fun _ _ h => h, fun _ _ => rfl, fun _ h => h, ⟨[], by simp⟩⟩
theorem Fz.trans {g g1 g2 : Gh} {H H1 H2 : Hp} (a : Fz g H g1 H1) (b : Fz g1 H1 g2 H2) : Fz g H g2 H2 :=
  ⟨fun x vs h => b.tup x vs (a.tup x vs h), fun x h => (b.frz x (a.F x h)).trans (a.frz x h), fun x h => b.F x (a.F x h), by
    obtain ⟨t, e⟩ := a.ρ; obtain ⟨u, e'⟩ := b.ρ; exact ⟨t ++ u, by rw [e', e, List.append_assoc]⟩⟩
theorem Stp.refl (g : Gh) (H : Hp) : Stp g H g H := ⟨Fz.refl g H, fun _ _ h _ => h, fun _ h => .inl h⟩
theorem Stp.trans {g g1 g2 : Gh} {H H1 H2 : Hp} (a : Stp g H g1 H1) (b : Stp g1 H1 g2 H2) : Stp g H g2 H2 := by
  refine ⟨a.toFz.trans b.toFz, fun x o h hx => b.oth x o (a.oth x o h hx) fun z => ?_, fun x hx => ?_⟩
  · rcases a.rN x z with q | q
    · exact hx q
    · rw [h] at q; cases q
  · by_cases hg : x ∈ g.ρ
    · exact .inl hg
    · refine .inr ?_
      cases q : H x with
      | none => rfl
      | some o =>
        rcases b.rN x hx with z | z
        · rcases a.rN x z with y | y
          · exact absurd y hg
          · rw [q] at y; cases y
        · rw [a.oth x o q hg] at z; cases z

section
variable {mg : Str → Option Value} {w : WK} {g g' : Gh} {H H' : Hp}
theorem Fz.get {k : Nat} {a : Addr} (z : Fz g H g' H') (h : g.ρ[k]? = some a) : g'.ρ[k]? = some a := by
  obtain ⟨t, e⟩ := z.ρ
  rw [e, List.getElem?_append_left (List.getElem?_eq_some_iff.mp h).1]
  exact h
theorem Fz.rd {a : Addr} {u : HO} (z : Fz g H g' H') (hF : g.F a) (h : Rd H a u) : Rd H' a u := by
  have e := z.frz a hF
  rcases h with h | ⟨o, h⟩
  · exact .inl (e.trans h)
  · exact .inr ⟨o, e.trans h⟩
theorem LsA.mono {a : Addr} {xs : List V} (z : Fz g H g' H') (h : LsA w g H a xs) : LsA w g' H' a xs := h.imp (fun h => ⟨z.F _ h.1, z.rd h.1 h.2⟩) id
mutual
theorem Rep.mono (z : Fz g H g' H') : ∀ {d : D} {v : V}, Rep mg w g H d v → Rep mg w g' H' d v
  | _, _, .non => .non
  | _, _, .bl _ => .bl _
  | _, _, .int _ => .int _
  | _, _, .str _ => .str _
  | _, _, .tup h1 h2 => .tup (z.tup _ _ h1) (RepAll.mono z h2)
  | _, _, .lst h0 h1 h2 => .lst (z.F _ h0) (z.rd h0 h1) (RepAll.mono z h2)
  | _, _, .dct h0 h1 h2 h3 h4 => .dct (z.F _ h0) ((z.frz _ h0).trans h1) h2 (RepEs.mono z h3) h4
  | _, _, .ref h => .ref (z.get h)
  | _, _, .fn h => .fn h
  | _, _, .kst h1 h2 => .kst (LsA.mono z h1) (RepAll.mono z h2)
  | _, _, .opq => .opq
theorem RepAll.mono (z : Fz g H g' H') : ∀ {ds : List D} {vs : List V}, RepAll mg w g H ds vs → RepAll mg w g' H' ds vs
  | _, _, .nil => .nil
  | _, _, .cons h1 h2 => .cons (Rep.mono z h1) (RepAll.mono z h2)
theorem RepEs.mono (z : Fz g H g' H') : ∀ {ks ds : List D} {es : List DictEntry}, RepEs mg w g H ks ds es → RepEs mg w g' H' ks ds es
  | _, _, _, .nil => .nil
  | _, _, _, .cons h1 h2 h3 h4 h5 h5' h6 h7 => .cons (Rep.mono z h1) h2 (Rep.mono z h3) h4 h5 h5' h6 (RepEs.mono z h7)
end
theorem RepAll.length : ∀ {ds : List D} {vs : List V}, RepAll mg w g H ds vs → ds.length = vs.length
  | _, _, .nil => rfl
  | _, _, .cons _ r => by simp [RepAll.length r]
theorem RepAll.get : ∀ {ds : List D} {vs : List V} {i : Nat} {d : D}, RepAll mg w g H ds vs → ds[i]? = some d → ∃ v, vs[i]? = some v ∧ Rep mg w g H d v
  | _, _, _, _, .nil, e => by simp at e
  | _, _, 0, _, .cons r _, e => by simp at e; subst e; exact ⟨_, rfl, r⟩
  | _, _, i + 1, x, .cons _ t, e => by
    obtain ⟨u, h1, h2⟩ := RepAll.get (i := i) (d := x) t (by simpa using e)
    exact ⟨u, by simpa using h1, h2⟩
theorem RepAll.get' : ∀ {ds : List D} {vs : List V} {i : Nat} {v : V}, RepAll mg w g H ds vs → vs[i]? = some v → ∃ d, ds[i]? = some d ∧ Rep mg w g H d v
  | _, _, _, _, .nil, e => by simp at e
  | _, _, 0, _, .cons r _, e => by simp at e; subst e; exact ⟨_, rfl, r⟩
  | _, _, i + 1, x, .cons _ t, e => by
    obtain ⟨u, h1, h2⟩ := RepAll.get' (i := i) (v := x) t (by simpa using e)
    exact ⟨u, by simpa using h1, h2⟩
theorem RepAll.append : ∀ {ds es : List D} {vs us : List V}, RepAll mg w g H ds vs → RepAll mg w g H es us → RepAll mg w g H (ds ++ es) (vs ++ us)
  | _, _, _, _, .nil, s => s
  | _, _, _, _, .cons r t, s => .cons r (RepAll.append t s)
theorem RepAll.take : ∀ {ds : List D} {vs : List V} (n : Nat), RepAll mg w g H ds vs → RepAll mg w g H (ds.take n) (vs.take n)
  | _, _, 0, _ => .nil
  | _, _, _ + 1, .nil => .nil
  | _, _, n + 1, .cons r t => .cons r (RepAll.take n t)
theorem RepAll.drop : ∀ {ds : List D} {vs : List V} (n : Nat), RepAll mg w g H ds vs → RepAll mg w g H (ds.drop n) (vs.drop n)
  | _, _, 0, r => r
  | _, _, _ + 1, .nil => .nil
  | _, _, n + 1, .cons r t => RepAll.drop n t
theorem RepAll.set {d : D} {v : V} (r : Rep mg w g H d v) : ∀ {ds : List D} {vs : List V} (i : Nat), RepAll mg w g H ds vs → RepAll mg w g H (ds.set i d) (vs.set i v)
  | _, _, _, .nil => .nil
  | _, _, 0, .cons _ t => .cons r t
  | _, _, i + 1, .cons q t => .cons q (RepAll.set r i t)
theorem RepM.mono (z : Fz g H g' H') {m : M} {a : Addr} (e : H' a = H a) (r : RepM mg w g H m a) : RepM mg w g' H' m a := by
  cases m with
  | lst ds => obtain ⟨vs, h1, h2⟩ := r; exact ⟨vs, e.trans h1, RepAll.mono z h2⟩
  | dct ks ds => obtain ⟨es, ep, h1, h2, h3, h4⟩ := r; exact ⟨es, ep, e.trans h1, h2, RepEs.mono z h3, h4⟩
  | ins C ns xs => obtain ⟨Ca, dx, vs, h1, h2, h3, h4, h5⟩ := r; exact ⟨Ca, dx, vs, h1, e.trans h2, h3, h4, RepAll.mono z h5⟩
  | tbl q =>
    obtain ⟨h0, ps, h1, h2, h3⟩ := r
    refine ⟨h0, ps, e.trans h1, h2, fun pos cv hc => ?_⟩
    obtain ⟨c, k1, k2, k3⟩ := h3 pos cv hc
    exact ⟨c, k1, z.F _ k2, (z.frz _ k2).trans k3⟩
theorem RepM.there {m : M} {a : Addr} (r : RepM mg w g H m a) : ∃ o, H a = some o ∧ ∀ vs, o ≠ .tup vs := by
  cases m with
  | lst ds => obtain ⟨vs, h1, _⟩ := r; exact ⟨_, h1, fun _ q => nomatch q⟩
  | dct ks ds => obtain ⟨es, ep, h1, _⟩ := r; exact ⟨_, h1, fun _ q => nomatch q⟩
  | ins C ns xs => obtain ⟨_, _, _, _, h2, _⟩ := r; exact ⟨_, h2, fun _ q => nomatch q⟩
  | tbl q => obtain ⟨_, _, h1, _⟩ := r; exact ⟨_, h1, fun _ q => nomatch q⟩
theorem StoOk.there {S : Sto} (h : StoOk mg w g H S) {a : Addr} (ha : a ∈ g.ρ) : ∃ o, H a = some o ∧ ∀ vs, o ≠ .tup vs := by
  obtain ⟨k, hk, e⟩ := List.getElem_of_mem ha
  have h1 : g.ρ[k]? = some a := by rw [List.getElem?_eq_getElem hk, e]
  have h2 : S[k]? = some (S[k]'(h.len ▸ hk)) := List.getElem?_eq_getElem _
  exact (h.at_ k a _ h1 h2).there
end

/-- only new objects -/
def New (H H' : Hp) : Prop := ∀ a o, H a = some o → H' a = some o
theorem New.refl (H : Hp) : New H H := fun _ _ h => h
theorem New.upd {H : Hp} {p : Addr} {o : HO} (h : H p = none) : New H (upd H p o) := fun a u e => by
  rw [upd_ne (ne_of_none e h)]; exact e
theorem New.trans {H H1 H2 : Hp} (a : New H H1) (b : New H1 H2) : New H H2 := fun x o h => b x o (a x o h)

/-- a body's state: B, g₀ the heap and the ghosts at the entry -/
structure Rp (mg : Str → Option Value) (w : WK) (B : Hp) (g0 g : Gh) (H : Hp) (σ : L2.St) (env : VEnv) (S : Sto) : Prop where
  sto : StoOk mg w g H S
  len : env.length = σ.length
  val : ∀ (i : Nat) (d : D), env[i]? = some (some (T.val d)) → ∃ v, σ[i]? = some (some v) ∧ Rep mg w g H d v
  own : ∀ (i : Nat) (m : M), env[i]? = some (some (T.own m)) → ∃ a, σ[i]? = some (some (V.ref a)) ∧ RepM mg w g H m a ∧ B a = none ∧ ¬ g.F a ∧ a ∉ g.ρ
  inj : ∀ (i j : Nat) (m m' : M) (a : Addr), env[i]? = some (some (T.own m)) → env[j]? = some (some (T.own m')) → σ[i]? = some (some (V.ref a)) → σ[j]? = some (some (V.ref a)) → i = j
  base : Stp g0 B g H
  fN : ∀ a, g.F a → g0.F a ∨ B a = none
  noTup : ∀ a ∈ g.ρ, ∀ vs, B a ≠ some (.tup vs)

section
variable {mg : Str → Option Value} {w : WK} {B : Hp} {g0 g g' : Gh} {H H' : Hp} {σ : L2.St} {env : VEnv} {S : Sto}
/-- an address that H lacks is new for the entry, too -/
theorem Rp.bn (R : Rp mg w B g0 g H σ env S) {a : Addr} (h : H a = none) : B a = none := by
  cases q : B a with
  | none => rfl
  | some o =>
    by_cases ha : a ∈ g0.ρ
    · obtain ⟨t, e⟩ := R.base.ρ
      obtain ⟨u, hu, _⟩ := R.sto.there (a := a) (by rw [e]; exact List.mem_append_left _ ha)
      rw [h] at hu; cases hu
    · have := R.base.oth a o q ha
      rw [h] at this; cases this
theorem Rp.nF (R : Rp mg w B g0 g H σ env S) {a : Addr} (h : H a = none) : ¬ g.F a := fun z => by
  obtain ⟨o, e⟩ := R.sto.tr a z
  rw [h] at e; cases e
theorem Rp.nρ (R : Rp mg w B g0 g H σ env S) {a : Addr} (h : H a = none) : a ∉ g.ρ := fun z => by
  obtain ⟨o, e, _⟩ := R.sto.there z
  rw [h] at e; cases e
theorem Fz.new (h : New H H') (tr : ∀ a, g.F a → ∃ o, H a = some o) : Fz g H g H' :=
  ⟨fun a vs e => h a _ e, fun a hF => by obtain ⟨o, e⟩ := tr a hF; rw [h a o e, e], fun _ h => h, ⟨[], by simp⟩⟩
theorem StoOk.new (h : New H H') (R : StoOk mg w g H S) : StoOk mg w g H' S :=
  ⟨R.len, R.nd, fun k a m h1 h2 => by
    have r := R.at_ k a m h1 h2
    obtain ⟨o, e, _⟩ := r.there
    exact r.mono (Fz.new h R.tr) (by rw [h a o e, e]), R.nF, fun a hF => by obtain ⟨o, e⟩ := R.tr a hF; exact ⟨o, h a o e⟩⟩
/-- new objects change nothing -/
theorem Rp.new (R : Rp mg w B g0 g H σ env S) (h : New H H') : Rp mg w B g0 g H' σ env S := by
  have z : Fz g H g H' := Fz.new h R.sto.tr
  refine ⟨R.sto.new h, R.len, fun i d e => ?_, fun i m e => ?_, R.inj, ⟨R.base.toFz.trans z, fun a o e ha => h a o (R.base.oth a o e ha), R.base.rN⟩, R.fN, R.noTup⟩
  · obtain ⟨v, h1, h2⟩ := R.val i d e
    exact ⟨v, h1, h2.mono z⟩
  · obtain ⟨a, h1, h2, h3⟩ := R.own i m e
    obtain ⟨o, q, _⟩ := h2.there
    exact ⟨a, h1, h2.mono z (by rw [h a o q, q]), h3⟩
/-- one object more is frozen -/
def Gh.fz (g : Gh) (a : Addr) : Gh := ⟨fun b => g.F b ∨ b = a, g.ρ⟩
theorem Fz.fz {a : Addr} : Fz g H (g.fz a) H := ⟨fun _ _ h => h, fun _ _ => rfl, fun _ h => .inl h, ⟨[], by simp [Gh.fz]⟩⟩
theorem Stp.fz {a : Addr} : Stp g H (g.fz a) H := ⟨Fz.fz, fun _ _ h _ => h, fun _ h => .inl h⟩
theorem StoOk.fz {a : Addr} (R : StoOk mg w g H S) (hs : a ∉ g.ρ) (ht : ∃ o, H a = some o) : StoOk mg w (g.fz a) H S :=
  ⟨R.len, R.nd, fun k b m h1 h2 => (R.at_ k b m h1 h2).mono Fz.fz rfl, fun b hb z => by
    rcases z with z | z
    · exact R.nF b hb z
    · subst z; exact hs hb, fun b z => by
    rcases z with z | z
    · exact R.tr b z
    · subst z; exact ht⟩
/-- a fresh one, held by no slot, is frozen -/
theorem Rp.fz {a : Addr} (R : Rp mg w B g0 g H σ env S) (hs : a ∉ g.ρ) (ht : ∃ o, H a = some o) (hB : B a = none) (no : ∀ (i : Nat) (m : M), env[i]? = some (some (T.own m)) → σ[i]? ≠ some (some (V.ref a))) : Rp mg w B g0 (g.fz a) H σ env S := by
  refine ⟨R.sto.fz hs ht, R.len, fun i d e => ?_, fun i m e => ?_, R.inj, ⟨R.base.toFz.trans Fz.fz, R.base.oth, R.base.rN⟩, fun b z => ?_, R.noTup⟩
  · obtain ⟨v, h1, h2⟩ := R.val i d e
    exact ⟨v, h1, h2.mono Fz.fz⟩
  · obtain ⟨b, h1, h2, h3, h4, h5⟩ := R.own i m e
    refine ⟨b, h1, h2.mono Fz.fz rfl, h3, fun z => ?_, h5⟩
    rcases z with z | z
    · exact h4 z
    · subst z; exact no i m e h1
  · rcases z with z | z
    · exact R.fN b z
    · subst z; exact .inr hB
theorem RepM.rep {m : M} {a : Addr} (r : RepM mg w g H m a) : Rep mg w (g.fz a) H m.d (.ref a) := by
  cases m with
  | lst ds => obtain ⟨vs, h1, h2⟩ := r; exact .lst (.inr rfl) (.inl h1) (RepAll.mono Fz.fz h2)
  | dct ks ds => obtain ⟨es, ep, h1, h2, h3, h4⟩ := r; exact .dct (.inr rfl) h1 h2 (RepEs.mono Fz.fz h3) h4
  | ins C ns xs => exact .opq
  | tbl q => exact .opq
/-- a slot's object is frozen -/
theorem Rp.fzSlot {i : Nat} {m : M} {a : Addr} (R : Rp mg w B g0 g H σ env S) (e : env[i]? = some (some (T.own m))) (hs : σ[i]? = some (some (V.ref a))) : Rp mg w B g0 (g.fz a) H σ (env.set i (some (T.val m.d))) S := by
  have hi : i < env.length := (List.getElem?_eq_some_iff.mp e).1
  obtain ⟨a', h1, h2, h3, h4, h5⟩ := R.own i m e
  rw [hs] at h1; cases h1
  have ht : ∃ o, H a = some o := by obtain ⟨o, q, _⟩ := h2.there; exact ⟨o, q⟩
  refine ⟨R.sto.fz h5 ht, by rw [List.length_set]; exact R.len, fun j d q => ?_, fun j m' q => ?_, fun j k m1 m2 b q1 q2 => ?_, ⟨R.base.toFz.trans Fz.fz, R.base.oth, R.base.rN⟩, fun b z => ?_, R.noTup⟩
  · by_cases hj : i = j
    · subst hj
      rw [List.getElem?_set_self hi] at q; cases q
      exact ⟨_, hs, h2.rep⟩
    · rw [List.getElem?_set_ne hj] at q
      obtain ⟨v, q1, q2⟩ := R.val j d q
      exact ⟨v, q1, q2.mono Fz.fz⟩
  · by_cases hj : i = j
    · subst hj
      rw [List.getElem?_set_self hi] at q; cases q
    · rw [List.getElem?_set_ne hj] at q
      obtain ⟨b, q1, q2, q3, q4, q5⟩ := R.own j m' q
      refine ⟨b, q1, q2.mono Fz.fz rfl, q3, fun z => ?_, q5⟩
      rcases z with z | z
      · exact q4 z
      · subst z; exact hj (R.inj _ _ _ _ _ e q hs q1)
  · by_cases hj : i = j
    · subst hj
      rw [List.getElem?_set_self hi] at q1; cases q1
    · by_cases hk : i = k
      · subst hk
        rw [List.getElem?_set_self hi] at q2; cases q2
      · rw [List.getElem?_set_ne hj] at q1
        rw [List.getElem?_set_ne hk] at q2
        exact R.inj j k m1 m2 b q1 q2
  · rcases z with z | z
    · exact R.fN b z
    · subst z; exact .inr h3
end
section
variable {mg : Str → Option Value} {w : WK} {g g' : Gh} {H H' : Hp} {d : D} {v : V} {m : M} {a : Addr}
theorem New.stp (h : New H H') (tr : ∀ a, g.F a → ∃ o, H a = some o) : Stp g H g H' := ⟨Fz.new h tr, fun a o e _ => h a o e, fun _ h => .inl h⟩
/-- an operand: it is held, or its object stands and is not the store's -/
def Top (mg : Str → Option Value) (w : WK) (g : Gh) (H : Hp) (d : D) (v : V) : Prop := Rep mg w g H d v ∨ ∃ a m, v = .ref a ∧ d = M.d m ∧ RepM mg w g H m a ∧ a ∉ g.ρ
/-- an operand as it is used -/
def Cont (mg : Str → Option Value) (w : WK) (g : Gh) (H : Hp) (d : D) (v : V) : Prop := Rep mg w g H d v ∨ ∃ a m, v = .ref a ∧ d = M.d m ∧ RepM mg w g H m a
theorem Top.stp (z : Stp g H g' H') (r : Top mg w g H d v) : Top mg w g' H' d v := by
  rcases r with r | ⟨a, m, h1, h2, h3, h4⟩
  · exact .inl (r.mono z.toFz)
  · obtain ⟨o, e, _⟩ := h3.there
    refine .inr ⟨a, m, h1, h2, h3.mono z.toFz ((z.oth a o e h4).trans e.symm), fun q => ?_⟩
    rcases z.rN a q with q | q
    · exact h4 q
    · rw [e] at q; cases q
def dr (S : Sto) : D → D
  | .ref k => match S[k]? with
    | some m => M.d m
    | none => .ref k
  | .non => .non
  | .bl b => .bl b
  | .int i => .int i
  | .str x => .str x
  | .tup xs => .tup xs
  | .lst xs => .lst xs
  | .dct ks vs => .dct ks vs
  | .fn x => .fn x
  | .kst x => .kst x
  | .opq => .opq
theorem Top.cont {S : Sto} (R : StoOk mg w g H S) (r : Top mg w g H d v) : Cont mg w g H (dr S d) v := by
  rcases r with r | ⟨a, m, h1, h2, h3, h4⟩
  · cases r with
    | @ref k a h =>
      show Cont mg w g H (match S[k]? with | some m => M.d m | none => .ref k) _
      cases q : S[k]? with
      | none => exact .inl (.ref h)
      | some m => exact .inr ⟨a, m, rfl, rfl, R.at_ k a m h q⟩
    | non => exact .inl .non
    | bl => exact .inl (.bl _)
    | int => exact .inl (.int _)
    | str => exact .inl (.str _)
    | tup h1 h2 => exact .inl (.tup h1 h2)
    | lst h1 h2 h3 => exact .inl (.lst h1 h2 h3)
    | dct h1 h2 h3 h4 h5 => exact .inl (.dct h1 h2 h3 h4 h5)
    | fn h => exact .inl (.fn h)
    | kst h1 h2 => exact .inl (.kst h1 h2)
    | opq => exact .inl .opq
  · subst h2
    refine .inr ⟨a, m, h1, ?_, h3⟩
    cases m <;> rfl
theorem Cont.int {i : Int} (r : Cont mg w g H (.int i) v) : v = .int i := by
  rcases r with r | ⟨a, m, h1, h2, h3⟩
  · cases r; rfl
  · cases m <;> cases h2
theorem Cont.bl {b : Bool} (r : Cont mg w g H (.bl b) v) : v = .bl b := by
  rcases r with r | ⟨a, m, h1, h2, h3⟩
  · cases r; rfl
  · cases m <;> cases h2
theorem Cont.non (r : Cont mg w g H .non v) : v = .non := by
  rcases r with r | ⟨a, m, h1, h2, h3⟩
  · cases r; rfl
  · cases m <;> cases h2
theorem Cont.str {x : Str} (r : Cont mg w g H (.str x) v) : v = .str x := by
  rcases r with r | ⟨a, m, h1, h2, h3⟩
  · cases r; rfl
  · cases m <;> cases h2
theorem Cont.tup {ds : List D} (r : Cont mg w g H (.tup ds) v) : ∃ a vs, v = .ref a ∧ H a = some (.tup vs) ∧ RepAll mg w g H ds vs := by
  rcases r with r | ⟨a, m, h1, h2, h3⟩
  · cases r with
    | tup h1 h2 => exact ⟨_, _, rfl, h1, h2⟩
  · cases m <;> cases h2
theorem Cont.lst {ds : List D} (r : Cont mg w g H (.lst ds) v) : ∃ a vs, v = .ref a ∧ Rd H a (.lst vs) ∧ RepAll mg w g H ds vs := by
  rcases r with r | ⟨a, m, h1, h2, h3⟩
  · cases r with
    | lst _ h1 h2 => exact ⟨_, _, rfl, h1, h2⟩
  · cases m with
    | lst xs => cases h2; obtain ⟨vs, q1, q2⟩ := h3; exact ⟨a, vs, h1, .inl q1, q2⟩
    | dct _ _ => cases h2
    | ins _ _ _ => cases h2
    | tbl _ => cases h2
theorem Cont.kst {ds : List D} (r : Cont mg w g H (.kst ds) v) : ∃ a vs, v = .ref a ∧ LsA w g H a vs ∧ RepAll mg w g H ds vs := by
  rcases r with r | ⟨a, m, h1, h2, h3⟩
  · cases r with
    | kst h1 h2 => exact ⟨_, _, rfl, h1, h2⟩
  · cases m <;> cases h2
theorem Cont.dct {ks ds : List D} (r : Cont mg w g H (.dct ks ds) v) : ∃ a es ep, v = .ref a ∧ H a = some (.ext (DictAt a (es, ep))) ∧ (a == sysModules) = false ∧ RepEs mg w g H ks ds es ∧ (ks.map D.key).Nodup := by
  rcases r with r | ⟨a, m, h1, h2, h3⟩
  · cases r with
    | dct _ h1 h2 h3 h4 => exact ⟨_, _, _, rfl, h1, h2, h3, h4⟩
  · cases m with
    | lst xs => cases h2
    | ins _ _ _ => cases h2
    | tbl _ => cases h2
    | dct _ _ => cases h2; obtain ⟨es, ep, q1, q2, q3, q4⟩ := h3; exact ⟨a, es, ep, h1, q1, q2, q3, q4⟩
/-- what an operation hands back -/
def RR (mg : Str → Option Value) (w : WK) (g : Gh) (H H' : Hp) : T → V → Prop
  | .val d, z => Rep mg w g H' d z
  | .own m, z => ∃ a, z = .ref a ∧ RepM mg w g H' m a ∧ H a = none
/-- .. and what an expression does -/
def RT (mg : Str → Option Value) (w : WK) (B : Hp) (g : Gh) (H : Hp) (σ : L2.St) (env : VEnv) : T → V → Prop
  | .val d, z => Rep mg w g H d z
  | .own m, z => ∃ a, z = .ref a ∧ RepM mg w g H m a ∧ B a = none ∧ ¬ g.F a ∧ a ∉ g.ρ ∧ ∀ (i : Nat) (m' : M), env[i]? = some (some (T.own m')) → σ[i]? ≠ some (some (V.ref a))
variable {B : Hp} {g0 : Gh} {σ : L2.St} {env : VEnv} {S : Sto} {t : T}
theorem Rp.rt (R : Rp mg w B g0 g H σ env S) (h : New H H') (r : RR mg w g H H' t v) : RT mg w B g H' σ env t v := by
  cases t with
  | val d => exact r
  | own m =>
    obtain ⟨a, h1, h2, h3⟩ := r
    refine ⟨a, h1, h2, R.bn h3, R.nF h3, R.nρ h3, fun i m' e q => ?_⟩
    obtain ⟨b, q1, q2, _⟩ := R.own i m' e
    rw [q] at q1; cases q1
    obtain ⟨o, q3, _⟩ := q2.there
    rw [h3] at q3; cases q3
theorem RT.top (r : RT mg w B g H σ env t v) : Top mg w g H t.d v := by
  cases t with
  | val d => exact .inl r
  | own m => obtain ⟨a, h1, h2, _, _, h5, _⟩ := r; exact .inr ⟨a, m, h1, rfl, h2, h5⟩
/-- held from now on -/
theorem RT.hold (R : Rp mg w B g0 g H σ env S) (r : RT mg w B g H σ env t v) : ∃ g', Stp g H g' H ∧ Rp mg w B g0 g' H σ env S ∧ Rep mg w g' H t.d v := by
  cases t with
  | val d => exact ⟨g, Stp.refl g H, R, r⟩
  | own m =>
    obtain ⟨a, h1, h2, h3, h4, h5, h6⟩ := r
    subst h1
    have ht : ∃ o, H a = some o := by obtain ⟨o, q, _⟩ := h2.there; exact ⟨o, q⟩
    exact ⟨g.fz a, Stp.fz, R.fz h5 ht h3 h6, h2.rep⟩
end
end VC

set_option Elab.async false
set_option linter.all false
set_option maxRecDepth 100000
set_option maxHeartbeats 4000000
/-! VB: the judgements by data, and their rules. -/
namespace VC
open PySem PySem.Spec PyProof.Rows L2

abbrev WX (α : Type) := VEnv → Sto → (α → VEnv → Sto → Prop) → Prop
abbrev WE := WX T
abbrev WO := WX D
abbrev WA := WX (List D)
abbrev WT := WX Bool
def Mo {α : Type} (W : WX α) : Prop := ∀ env S (Q Q' : α → VEnv → Sto → Prop), (∀ t env' S', Q t env' S' → Q' t env' S') → W env S Q → W env S Q'
abbrev WEnd := VEnv → Sto → Prop
structure WEnds where
  nx : WEnd
  rt : T → Sto → Prop
  bk : WEnd := fun _ _ => False
  ct : WEnd := fun _ _ => False
abbrev WS := WEnds → VEnv → Sto → Prop

section
variable (X : Cx) (B : Hp) (g0 : Gh)
def VQ (g : Gh) (H : Hp) (σ : L2.St) (Q : T → VEnv → Sto → Prop) : VK := fun v H' => ∃ g' t env' S', Stp g H g' H' ∧ Rp X.mg X.wk B g0 g' H' σ env' S' ∧ RT X.mg X.wk B g' H' σ env' t v ∧ Q t env' S'
def OQ (g : Gh) (H : Hp) (σ : L2.St) (Q : D → VEnv → Sto → Prop) : VK := fun v H' => ∃ g' d env' S', Stp g H g' H' ∧ Rp X.mg X.wk B g0 g' H' σ env' S' ∧ Top X.mg X.wk g' H' d v ∧ Q d env' S'
def BQ (g : Gh) (H : Hp) (σ : L2.St) (Q : Bool → VEnv → Sto → Prop) : Bool → Hp → Prop := fun b H' => ∃ g' env' S', Stp g H g' H' ∧ Rp X.mg X.wk B g0 g' H' σ env' S' ∧ Q b env' S'
/-- arguments that are held -/
def AQ (g : Gh) (H : Hp) (σ : L2.St) (Q : List D → VEnv → Sto → Prop) : List V → Hp → Prop := fun vs H' => ∃ g' ds env' S', Stp g H g' H' ∧ Rp X.mg X.wk B g0 g' H' σ env' S' ∧ RepAll X.mg X.wk g' H' ds vs ∧ Q ds env' S'
/-- arguments that are looked at -/
inductive TopAll (mg : Str → Option Value) (w : WK) (g : Gh) (H : Hp) : List D → List V → Prop
  | nil : TopAll mg w g H [] []
  | cons {d v ds vs} : Top mg w g H d v → TopAll mg w g H ds vs → TopAll mg w g H (d :: ds) (v :: vs)
def UQ (g : Gh) (H : Hp) (σ : L2.St) (Q : List D → VEnv → Sto → Prop) : List V → Hp → Prop := fun vs H' => ∃ g' ds env' S', Stp g H g' H' ∧ Rp X.mg X.wk B g0 g' H' σ env' S' ∧ TopAll X.mg X.wk g' H' ds vs ∧ Q ds env' S'
/-- behind a statement -/
def NQ (g : Gh) (H : Hp) (Q : WEnd) : L2.St → Hp → Prop := fun σ' H' => ∃ g' env' S', Fz g H g' H' ∧ Rp X.mg X.wk B g0 g' H' σ' env' S' ∧ Q env' S'
def KQ (g : Gh) (H : Hp) (Q : T → Sto → Prop) : VK := fun v H' => ∃ g' t σ' env' S', Rp X.mg X.wk B g0 g' H' σ' env' S' ∧ RT X.mg X.wk B g' H' σ' env' t v ∧ Q t S'
def tE (W : WE) : TE := fun σ H Q => ∃ env S g Q0, Rp X.mg X.wk B g0 g H σ env S ∧ W env S Q0 ∧ ∀ v H', VQ X B g0 g H σ Q0 v H' → Q v H'
def tO (W : WO) : TE := fun σ H Q => ∃ env S g Q0, Rp X.mg X.wk B g0 g H σ env S ∧ W env S Q0 ∧ ∀ v H', OQ X B g0 g H σ Q0 v H' → Q v H'
def tT (W : WT) : TT := fun σ H Q => ∃ env S g Q0, Rp X.mg X.wk B g0 g H σ env S ∧ W env S Q0 ∧ ∀ b H', BQ X B g0 g H σ Q0 b H' → Q b H'
def tA (W : WA) : TA := fun σ H Q => ∃ env S g Q0, Rp X.mg X.wk B g0 g H σ env S ∧ W env S Q0 ∧ ∀ vs H', AQ X B g0 g H σ Q0 vs H' → Q vs H'
def tU (W : WA) : TA := fun σ H Q => ∃ env S g Q0, Rp X.mg X.wk B g0 g H σ env S ∧ W env S Q0 ∧ ∀ vs H', UQ X B g0 g H σ Q0 vs H' → Q vs H'
structure SQ (g : Gh) (H : Hp) (De : WEnds) (D' : Ends) : Prop where
  nx : ∀ σ' H', NQ X B g0 g H De.nx σ' H' → D'.nx σ' H'
  rt : ∀ v H', KQ X B g0 g H De.rt v H' → D'.rt v H'
  bk : ∀ σ' H', NQ X B g0 g H De.bk σ' H' → D'.bk σ' H'
  ct : ∀ σ' H', NQ X B g0 g H De.ct σ' H' → D'.ct σ' H'
def tS (W : WS) : TS := fun D' σ H => ∃ env S g De, Rp X.mg X.wk B g0 g H σ env S ∧ W De env S ∧ SQ X B g0 g H De D'

structure VE (e : Expr) (W : WE) : Prop where
  mono : Mo W
  pe : PE X e (tE X B g0 W)
structure VO (e : Expr) (W : WO) : Prop where
  mono : Mo W
  pe : PE X e (tO X B g0 W)
structure VT (e : Expr) (W : WT) : Prop where
  mono : Mo W
  pt : PT X e (tT X B g0 W)
structure VW (e : Expr) (W : WT) : Prop where
  mono : Mo W
  pw : PW X e (tT X B g0 W)
structure VA (es : List Expr) (W : WA) : Prop where
  mono : Mo W
  pa : PA X es (tA X B g0 W)
structure VU (es : List Expr) (W : WA) : Prop where
  mono : Mo W
  pa : PA X es (tU X B g0 W)
structure WEnds.Le (D D' : WEnds) : Prop where
  nx : ∀ e s, D.nx e s → D'.nx e s
  rt : ∀ t s, D.rt t s → D'.rt t s
  bk : ∀ e s, D.bk e s → D'.bk e s
  ct : ∀ e s, D.ct e s → D'.ct e s
def MoS (W : WS) : Prop := ∀ env S D D', WEnds.Le D D' → W D env S → W D' env S
structure VS (st : Stmt) (W : WS) : Prop where
  mono : MoS W
  ps : PS X st (tS X B g0 W)
structure VSs (st : List Stmt) (W : WS) : Prop where
  mono : MoS W
  ps : PSs X st (tS X B g0 W)
end

theorem PE.imp {X : Cx} {e : Expr} {t t' : TE} (h : PE X e t) (i : ∀ σ H Q, t' σ H Q → t σ H Q) : PE X e t' := ⟨fun pins s σ H Q I q => h.run pins s σ H Q I (i _ _ _ q)⟩
theorem EP.mono {X : Cx} {pins : List (Addr × Obj)} {σ : L2.St} {Q Q' : VK} {u : Value} {s : Shared} (h : EP X pins σ Q u s) (i : ∀ v H, Q v H → Q' v H) : EP X pins σ Q' u s := let ⟨v, H, a, b, c⟩ := h; ⟨v, H, a, b, i _ _ c⟩

section
variable {X : Cx} {B : Hp} {g0 : Gh} {e a b : Expr} {es : List Expr} {pos : Pos}
theorem VE.of {W : WE} {t : TE} (mono : Mo W) (h : PE X e t)
    (imp : ∀ σ H env S g Q, Rp X.mg X.wk B g0 g H σ env S → W env S Q → t σ H (VQ X B g0 g H σ Q)) : VE X B g0 e W :=
  ⟨mono, ⟨fun pins s σ H Q I ⟨env, S, g, Q0, R, hW, i⟩ => thn (h.run pins s σ H _ I (imp σ H env S g Q0 R hW)) fun u s' q => EP.mono q i⟩⟩
theorem VO.of {W : WO} {t : TE} (mono : Mo W) (h : PE X e t)
    (imp : ∀ σ H env S g Q, Rp X.mg X.wk B g0 g H σ env S → W env S Q → t σ H (OQ X B g0 g H σ Q)) : VO X B g0 e W :=
  ⟨mono, ⟨fun pins s σ H Q I ⟨env, S, g, Q0, R, hW, i⟩ => thn (h.run pins s σ H _ I (imp σ H env S g Q0 R hW)) fun u s' q => EP.mono q i⟩⟩
theorem VT.of {W : WT} {t : TT} (mono : Mo W) (h : PT X e t)
    (imp : ∀ σ H env S g Q, Rp X.mg X.wk B g0 g H σ env S → W env S Q → t σ H (BQ X B g0 g H σ Q)) : VT X B g0 e W :=
  ⟨mono, ⟨fun pins s σ H Q I ⟨env, S, g, Q0, R, hW, i⟩ => thn (h.run pins s σ H _ I (imp σ H env S g Q0 R hW)) fun u s' ⟨H', I', q⟩ => ⟨H', I', i _ _ q⟩⟩⟩
theorem VW.of {W : WT} {t : TT} (mono : Mo W) (h : PW X e t)
    (imp : ∀ σ H env S g Q, Rp X.mg X.wk B g0 g H σ env S → W env S Q → t σ H (BQ X B g0 g H σ Q)) : VW X B g0 e W :=
  ⟨mono, ⟨fun wh pins s σ H Q I ⟨env, S, g, Q0, R, hW, i⟩ => thn (h.run wh pins s σ H _ I (imp σ H env S g Q0 R hW)) fun u s' ⟨H', I', q⟩ => ⟨H', I', i _ _ q⟩⟩⟩
theorem VW.vt {W : WT} (h : VW X B g0 e W) : VT X B g0 e W := ⟨h.mono, h.pw.pt⟩
theorem VA.of {W : WA} {t : TA} (mono : Mo W) (h : PA X es t)
    (imp : ∀ σ H env S g Q, Rp X.mg X.wk B g0 g H σ env S → W env S Q → t σ H (AQ X B g0 g H σ Q)) : VA X B g0 es W :=
  ⟨mono, ⟨fun pos pins s σ H Q I ⟨env, S, g, Q0, R, hW, i⟩ => thn (h.run pos pins s σ H _ I (imp σ H env S g Q0 R hW)) fun u s' ⟨vs, H', I', r, q⟩ => ⟨vs, H', I', r, i _ _ q⟩⟩⟩
theorem VU.of {W : WA} {t : TA} (mono : Mo W) (h : PA X es t)
    (imp : ∀ σ H env S g Q, Rp X.mg X.wk B g0 g H σ env S → W env S Q → t σ H (UQ X B g0 g H σ Q)) : VU X B g0 es W :=
  ⟨mono, ⟨fun pos pins s σ H Q I ⟨env, S, g, Q0, R, hW, i⟩ => thn (h.run pos pins s σ H _ I (imp σ H env S g Q0 R hW)) fun u s' ⟨vs, H', I', r, q⟩ => ⟨vs, H', I', r, i _ _ q⟩⟩⟩
theorem SP.mono {pins : List (Addr × Obj)} {D D' : Ends} {f : Flow} {s : Shared} (h : SP X pins D f s) (nx : ∀ σ H, D.nx σ H → D'.nx σ H) (rt : ∀ v H, D.rt v H → D'.rt v H) (bk : ∀ σ H, D.bk σ H → D'.bk σ H) (ct : ∀ σ H, D.ct σ H → D'.ct σ H) : SP X pins D' f s := by
  cases f with
  | next => obtain ⟨σ', H', I', q⟩ := h; exact ⟨σ', H', I', nx _ _ q⟩
  | brk => obtain ⟨σ', H', I', q⟩ := h; exact ⟨σ', H', I', bk _ _ q⟩
  | cont => obtain ⟨σ', H', I', q⟩ := h; exact ⟨σ', H', I', ct _ _ q⟩
  | ret u => obtain ⟨v, σ', H', I', r, q⟩ := h; exact ⟨v, σ', H', I', r, rt _ _ q⟩
/-- the exact ends of a body's statement -/
def ends (X : Cx) (B : Hp) (g0 : Gh) (g : Gh) (H : Hp) (De : WEnds) : Ends := { nx := NQ X B g0 g H De.nx, rt := KQ X B g0 g H De.rt, bk := NQ X B g0 g H De.bk, ct := NQ X B g0 g H De.ct }
theorem VS.of {st : Stmt} {W : WS} {t : TS} (mono : MoS W) (h : PS X st t)
    (imp : ∀ σ H env S g De, Rp X.mg X.wk B g0 g H σ env S → W De env S → t (ends X B g0 g H De) σ H) : VS X B g0 st W :=
  ⟨mono, ⟨fun pins s σ H D' I ⟨env, S, g, De, R, hW, i⟩ => thn (h.run pins s σ H _ I (imp σ H env S g De R hW)) fun u s' q => SP.mono q i.nx i.rt i.bk i.ct⟩⟩
theorem VSs.of {st : List Stmt} {W : WS} {t : TS} (mono : MoS W) (h : PSs X st t)
    (imp : ∀ σ H env S g De, Rp X.mg X.wk B g0 g H σ env S → W De env S → t (ends X B g0 g H De) σ H) : VSs X B g0 st W :=
  ⟨mono, ⟨fun pins s σ H D' I ⟨env, S, g, De, R, hW, i⟩ => thn (h.run pins s σ H _ I (imp σ H env S g De R hW)) fun u s' q => SP.mono q i.nx i.rt i.bk i.ct⟩⟩

/-! ### names, constants -/
def slot : VEnv → Nat → Option T
  | [], _ => none
  | x :: _, 0 => x
  | _ :: r, i + 1 => slot r i
theorem slot_get : ∀ {env : VEnv} {i : Nat} {t : T}, slot env i = some t → env[i]? = some (some t)
  | x :: _, 0, t, h => by simpa [slot] using h
  | _ :: r, i + 1, t, h => by
    have := slot_get (env := r) (i := i) (t := t) h
    simpa using this
def wC (d : D) : WE := fun env S Q => Q (.val d) env S
theorem ve_c {d : D} {v : V} (h : PE X e (tC v)) (r : ∀ w g H, Rep X.mg w g H d v) : VE X B g0 e (wC d) :=
  VE.of (fun _ _ _ _ i q => i _ _ _ q) h fun σ H env S g Q R q => ⟨g, .val d, env, S, Stp.refl g H, R, r _ _ _, q⟩
theorem ve_int {i : Int} {j : Nat} : VE X B g0 (.Constant (.int i) j pos) (wC (.int i)) := ve_c pe_int fun _ _ _ => .int i
theorem ve_bl {i : Bool} {j : Nat} : VE X B g0 (.Constant (.bool i) j pos) (wC (.bl i)) := ve_c pe_bl fun _ _ _ => .bl i
theorem ve_non {j : Nat} : VE X B g0 (.Constant .none j pos) (wC .non) := ve_c pe_non fun _ _ _ => .non
theorem ve_str {x : Str} {j : Nat} : VE X B g0 (.Constant (.str x) j pos) (wC (.str x)) := ve_c pe_str fun _ _ _ => .str x
/-- a name as a value: a list or dict is held from then on -/
def wV (i : Nat) : WE := fun env S Q => match slot env i with
  | some (.val d) => Q (.val d) env S
  | some (.own m) => Q (.val m.d) (env.set i (some (.val m.d))) S
  | none => False
/-- a name that is not asked any more -/
def wMv (i : Nat) : WE := fun env S Q => match slot env i with
  | some t => Q t (env.set i none) S
  | none => False
/-- a name, looked at -/
def oV (i : Nat) : WO := fun env S Q => match slot env i with
  | some t => Q t.d env S
  | none => False
theorem Rp.top {g : Gh} {H : Hp} {σ : L2.St} {env : VEnv} {S : Sto} {i : Nat} {t : T} (R : Rp X.mg X.wk B g0 g H σ env S) (h : slot env i = some t) : ∃ v, σ[i]? = some (some v) ∧ Top X.mg X.wk g H t.d v := by
  have h := slot_get h
  cases t with
  | val d => obtain ⟨v, h1, h2⟩ := R.val i d h; exact ⟨v, h1, .inl h2⟩
  | own m => obtain ⟨a, h1, h2, h3, h4, h5⟩ := R.own i m h; exact ⟨_, h1, .inr ⟨a, m, rfl, rfl, h2, h5⟩⟩
theorem vo_var {i : Nat} (h : PE X e (tVar i)) : VO X B g0 e (oV i) := by
  refine VO.of (fun env S Q Q' i' q => ?_) h fun σ H env S g Q R q => ?_
  · unfold oV at q ⊢
    split at q
    · exact i' _ _ _ q
    · exact q
  · unfold oV at q
    split at q
    · rename_i t hs
      obtain ⟨v, h1, h2⟩ := R.top hs
      exact ⟨v, h1, g, t.d, env, S, Stp.refl g H, R, h2, q⟩
    · exact q.elim
theorem ve_var {i : Nat} (h : PE X e (tVar i)) : VE X B g0 e (wV i) := by
  refine VE.of (fun env S Q Q' i' q => ?_) h fun σ H env S g Q R q => ?_
  · unfold wV at q ⊢
    split at q
    · exact i' _ _ _ q
    · exact i' _ _ _ q
    · exact q
  · unfold wV at q
    split at q
    · rename_i d hs
      obtain ⟨v, h1, h2⟩ := R.val i d (slot_get hs)
      exact ⟨v, h1, g, .val d, env, S, Stp.refl g H, R, h2, q⟩
    · rename_i m hs
      obtain ⟨a, h1, h2, _⟩ := R.own i m (slot_get hs)
      exact ⟨_, h1, g.fz a, .val m.d, _, S, Stp.fz, R.fzSlot (slot_get hs) h1, h2.rep, q⟩
    · exact q.elim
/-- a slot forgotten -/
theorem Rp.drop {g : Gh} {H : Hp} {σ : L2.St} {env : VEnv} {S : Sto} {mg : Str → Option Value} {w : WK} (R : Rp mg w B g0 g H σ env S) (i : Nat) : Rp mg w B g0 g H σ (env.set i none) S := by
  have key : ∀ (j : Nat) (t : T), (env.set i none)[j]? = some (some t) → j ≠ i ∧ env[j]? = some (some t) := fun j t q => by
    by_cases hj : i = j
    · subst hj
      by_cases hl : i < env.length
      · rw [List.getElem?_set_self hl] at q; cases q
      · rw [List.getElem?_eq_none (by simpa using hl)] at q; cases q
    · rw [List.getElem?_set_ne hj] at q; exact ⟨fun z => hj z.symm, q⟩
  exact ⟨R.sto, by rw [List.length_set]; exact R.len, fun j d q => R.val j d (key j _ q).2, fun j m q => R.own j m (key j _ q).2, fun j k m m' a q1 q2 => R.inj j k m m' a (key j _ q1).2 (key k _ q2).2, R.base, R.fN, R.noTup⟩
theorem ve_mv {i : Nat} (h : PE X e (tVar i)) : VE X B g0 e (wMv i) := by
  refine VE.of (fun env S Q Q' i' q => ?_) h fun σ H env S g Q R q => ?_
  · unfold wMv at q ⊢
    split at q
    · exact i' _ _ _ q
    · exact q
  · unfold wMv at q
    split at q
    · rename_i t hs
      cases t with
      | val d =>
        obtain ⟨v, h1, h2⟩ := R.val i d (slot_get hs)
        exact ⟨v, h1, g, .val d, _, S, Stp.refl g H, R.drop i, h2, q⟩
      | own m =>
        obtain ⟨a, h1, h2, h3, h4, h5⟩ := R.own i m (slot_get hs)
        refine ⟨_, h1, g, .own m, _, S, Stp.refl g H, R.drop i, ⟨a, rfl, h2, h3, h4, h5, fun j m' q1 q2 => ?_⟩, q⟩
        by_cases hj : i = j
        · subst hj
          rw [List.getElem?_set_self (List.getElem?_eq_some_iff.mp (slot_get hs)).1] at q1; cases q1
        · rw [List.getElem?_set_ne hj] at q1
          exact hj (R.inj _ _ _ _ _ (slot_get hs) q1 h1 q2)
    · exact q.elim
/-- any expression as an operand -/
def oE (W : WE) : WO := fun env S Q => W env S fun t env' S' => Q t.d env' S'
theorem VE.vo {W : WE} (h : VE X B g0 e W) : VO X B g0 e (oE W) :=
  VO.of (fun _ _ _ _ i q => h.mono _ _ _ _ (fun t env' S' => i t.d env' S') q) h.pe fun σ H env S g Q R q => ⟨env, S, g, _, R, q, fun v H' ⟨g', t, env', S', st, R', rt, q'⟩ => ⟨g', t.d, env', S', st, R', rt.top, q'⟩⟩

/-- a branch -/
inductive Ite (c : Bool) (a b : Prop) : Prop
  | mk : (c = true → a) → (c = false → b) → Ite c a b
theorem Ite.t {a b : Prop} (h : Ite true a b) : a := by cases h with | mk h _ => exact h rfl
theorem Ite.f {a b : Prop} (h : Ite false a b) : b := by cases h with | mk _ h => exact h rfl
theorem Ite.mt {c : Bool} {a b : Prop} (e : c = true) (h : a) : Ite c a b := .mk (fun _ => h) (fun q => by rw [e] at q; cases q)
theorem Ite.mf {c : Bool} {a b : Prop} (e : c = false) (h : b) : Ite c a b := .mk (fun q => by rw [e] at q; cases q) (fun _ => h)
theorem Ite.mono {c : Bool} {a b a' b' : Prop} (i : a → a') (j : b → b') (h : Ite c a b) : Ite c a' b' := by
  cases c with
  | true => exact Ite.mt rfl (i h.t)
  | false => exact Ite.mf rfl (j h.f)
theorem Ite.intro {c : Bool} {a b : Prop} (i : c = true → a) (j : c = false → b) : Ite c a b := .mk i j
/-! ### two operands -/
abbrev O1 := D → (T → Prop) → Prop
abbrev O2 := D → D → (T → Prop) → Prop
abbrev ON := List D → (T → Prop) → Prop
def Mo1 (op : O1) : Prop := ∀ d (K K' : T → Prop), (∀ t, K t → K' t) → op d K → op d K'
def Mo2 (op : O2) : Prop := ∀ d e (K K' : T → Prop), (∀ t, K t → K' t) → op d e K → op d e K'
def MoN (op : ON) : Prop := ∀ ds (K K' : T → Prop), (∀ t, K t → K' t) → op ds K → op ds K'
def RK (X : Cx) (g : Gh) (H : Hp) (K : T → Prop) : VK := fun z H' => ∃ t, New H H' ∧ RR X.mg X.wk g H H' t z ∧ K t
/-- a two-place operation, by a reading of the layer -/
structure Op2 (X : Cx) (f : Value → Value → Sem Value) (op : O2) : Prop where
  mono : Mo2 op
  run : ∀ (pins : List (Addr × Obj)) (s : Shared) (σ : L2.St) (H : Hp) (g : Gh) (d e : D) (x y : V) (v u : Value) (K : T → Prop), Inv X pins σ H s → (∀ a, g.F a → ∃ o, H a = some o) → Cont X.mg X.wk g H d x → Cont X.mg X.wk g H e y → RelV x v → RelV y u → op d e K →
    wpAny (model X.prog X.w) X.A (f v u) (EP X pins σ (RK X g H K)) X.xe s
theorem Op2.of {f : Value → Value → Sem Value} {op : O2} {r : R2} (mono : Mo2 op) (ho : OpR X f r)
    (imp : ∀ (H : Hp) (g : Gh) (d e : D) (x y : V) (K : T → Prop), (∀ a, g.F a → ∃ o, H a = some o) → Cont X.mg X.wk g H d x → Cont X.mg X.wk g H e y → op d e K → r x y H (RK X g H K)) : Op2 X f op :=
  ⟨mono, fun pins s σ H g d e x y v u K I tr c1 c2 r1 r2 h => ho pins s σ H x y v u _ I r1 r2 (imp H g d e x y K tr c1 c2 h)⟩
/-- the operation's reading -/
def rO (X : Cx) (op : O2) : R2 := fun x y H Q => ∃ g d e K, (∀ a, g.F a → ∃ o, H a = some o) ∧ Cont X.mg X.wk g H d x ∧ Cont X.mg X.wk g H e y ∧ op d e K ∧ ∀ z H', RK X g H K z H' → Q z H'
theorem Op2.opr {f : Value → Value → Sem Value} {op : O2} (h : Op2 X f op) : OpR X f (rO X op) := fun pins s σ H x y v u Q I r1 r2 ⟨g, d, e, K, tr, c1, c2, q, i⟩ =>
  thn (h.run pins s σ H g d e x y v u K I tr c1 c2 r1 r2 q) fun _ _ z => EP.mono z i
def wB (op : O2) (Wa Wb : WO) : WE := fun env S Q => Wa env S fun d env1 S1 => Wb env1 S1 fun e env2 S2 => op (dr S2 d) (dr S2 e) fun t => Q t env2 S2
theorem bin_imp {op : O2} {Wa Wb : WO} {σ : L2.St} {H : Hp} {env : VEnv} {S : Sto} {g : Gh} {Q : T → VEnv → Sto → Prop} (R : Rp X.mg X.wk B g0 g H σ env S) (q : wB op Wa Wb env S Q) :
    tOp (rO X op) (tO X B g0 Wa) (tO X B g0 Wb) σ H (VQ X B g0 g H σ Q) := by
  refine ⟨env, S, g, _, R, q, fun x H1 ⟨g1, d, env1, S1, st1, R1, t1, q1⟩ => ⟨env1, S1, g1, _, R1, q1, fun y H2 ⟨g2, e, env2, S2, st2, R2, t2, q2⟩ => ?_⟩⟩
  refine ⟨g2, _, _, _, R2.sto.tr, (t1.stp st2).cont R2.sto, t2.cont R2.sto, q2, fun z H3 ⟨t, hn, rr, k⟩ => ?_⟩
  exact ⟨g2, t, env2, S2, (st1.trans st2).trans (hn.stp R2.sto.tr), R2.new hn, R2.rt hn rr, k⟩
theorem wB_mono {op : O2} {Wa Wb : WO} (mo : Mo2 op) (ma : Mo Wa) (mb : Mo Wb) : Mo (wB op Wa Wb) := fun _ _ _ _ i q =>
  ma _ _ _ _ (fun _ _ _ q1 => mb _ _ _ _ (fun _ _ _ q2 => mo _ _ _ _ (fun _ q3 => i _ _ _ q3) q2) q1) q
theorem ve_bin {op : Operator} {o : O2} {Wa Wb : WO} (ho : Op2 X (binaryOp op) o) (ha : VO X B g0 a Wa) (hb : VO X B g0 b Wb) : VE X B g0 (.BinOp a op b pos) (wB o Wa Wb) :=
  VE.of (wB_mono ho.mono ha.mono hb.mono) (pe_op ho.opr ha.pe hb.pe) fun σ H env S g Q R q => bin_imp R q
theorem ve_cmp {op : CmpOp} {o : O2} {Wa Wb : WO} (ho : Op2 X (compareOp op) o) (ha : VO X B g0 a Wa) (hb : VO X B g0 b Wb) (hm : behindInMarks op b = false := by first | exact nomark _ | rfl) : VE X B g0 (.Compare a [op] [b] pos) (wB o Wa Wb) :=
  VE.of (wB_mono ho.mono ha.mono hb.mono) (pe_cmpR ho.opr ha.pe hb.pe hm) fun σ H env S g Q R q => bin_imp R q
/-- by a rule of subscripts -/
structure Ix2 (X : Cx) (op : O2) : Prop where
  mono : Mo2 op
  ix : IxR X (rO X op)
theorem ve_ix {o : O2} {Wa Wb : WO} (ho : Ix2 X o) (ha : VO X B g0 a Wa) (hb : VO X B g0 b Wb) (hs : PlainIx b := by intro _ _; rfl) : VE X B g0 (.Subscript a b pos) (wB o Wa Wb) :=
  VE.of (wB_mono ho.mono ha.mono hb.mono) (pe_ix ho.ix ha.pe hb.pe hs) fun σ H env S g Q R q => bin_imp R q
end
end VC

set_option Elab.async false
set_option linter.all false
set_option maxRecDepth 100000
set_option maxHeartbeats 4000000
/-! VC: operations by data. -/
namespace VC
open PySem PySem.Spec PyProof.Rows L2

section
variable {X : Cx} {g : Gh} {H : Hp} {K : T → Prop}
theorem rk_int {i : Int} (q : K (.val (.int i))) : RK X g H K (.int i) H := ⟨.val (.int i), New.refl H, Rep.int i, q⟩
theorem rk_bl {i : Bool} (q : K (.val (.bl i))) : RK X g H K (.bl i) H := ⟨.val (.bl i), New.refl H, Rep.bl i, q⟩
theorem rk_str {i : Str} (q : K (.val (.str i))) : RK X g H K (.str i) H := ⟨.val (.str i), New.refl H, Rep.str i, q⟩
theorem rk_tup {ds : List D} {vs : List V} {p : Addr} (tr : ∀ a, g.F a → ∃ o, H a = some o) (r : RepAll X.mg X.wk g H ds vs) (hp : H p = none) (q : K (.val (.tup ds))) : RK X g H K (.ref p) (upd H p (.tup vs)) :=
  ⟨.val (.tup ds), New.upd hp, Rep.tup upd_same (r.mono (Fz.new (New.upd hp) tr)), q⟩
theorem rk_lst {ds : List D} {vs : List V} {p : Addr} (tr : ∀ a, g.F a → ∃ o, H a = some o) (r : RepAll X.mg X.wk g H ds vs) (hp : H p = none) (q : K (.own (.lst ds))) : RK X g H K (.ref p) (upd H p (.lst vs)) :=
  ⟨.own (.lst ds), New.upd hp, ⟨p, rfl, ⟨vs, upd_same, r.mono (Fz.new (New.upd hp) tr)⟩, hp⟩, q⟩
theorem rk_rep {d : D} {v : V} (r : Rep X.mg X.wk g H d v) (q : K (.val d)) : RK X g H K v H := ⟨.val d, New.refl H, r, q⟩
theorem SqL.rd {K : PySem.W.Frag} {a : Addr} {xs : List V} (h : Rd H a (.lst xs)) : SqL K H a xs := .inl h
theorem SqT.at {K : PySem.W.Frag} {a : Addr} {xs : List V} (h : H a = some (.tup xs)) : SqT K H a xs := .inl (.inl h)
end

theorem sz1000 {n : Nat} (h : n ≤ 1000000) : n ≤ sizeLine := Nat.le_trans h (by decide)

/-! ### + -/
def opAdd : O2
  | .int i, .int j, K => K (.val (.int (i + j)))
  | .tup xs, .tup ys, K => xs.length + ys.length ≤ sizeLine ∧ K (.val (.tup (xs ++ ys)))
  | .lst xs, .lst ys, K => xs.length + ys.length ≤ sizeLine ∧ K (.own (.lst (xs ++ ys)))
  | .str x, .str y, K => x.length + y.length ≤ sizeLine ∧ K (.val (.str (x ++ y)))
  | .kst xs, .lst ys, K => xs.length + ys.length ≤ sizeLine ∧ K (.own (.lst (xs ++ ys)))
  | .bl a, .int j, K => K (.val (.int ((if a = true then (1 : Int) else 0) + j)))
  | _, _, _ => False
section
variable {X : Cx}
theorem Inv.lstR {pins : List (Addr × Obj)} {s : Shared} {σ : L2.St} {H : Hp} {l : Addr} {xs : List V} (I : Inv X pins σ H s) (hH : Rd H l (.lst xs)) : xs.length ≤ sizeLine ∧ ∃ (its : List Value) (n : Nat), Vals xs its ∧ xs.length = its.length ∧ s.heap.get? l = some { cls := .type "list", data := .seq its.toArray n } := by
  obtain ⟨z, its, n, r, e⟩ := hH.ok I.hok
  exact ⟨z, its, n, r, r.length, e⟩
def rCatR : R2 := fun x y H Q => ∃ l b xs zs, x = .ref l ∧ y = .ref b ∧ Rd H l (.lst xs) ∧ Rd H b (.lst zs) ∧ xs.length + zs.length ≤ sizeLine ∧ ∀ p, H p = none → Q (.ref p) (upd H p (.lst (xs ++ zs)))
theorem op_catR : OpR X (binaryOp .Add) rCatR := by
  intro pins s σ H x y v u Q I rx ry h
  obtain ⟨l, b, xs, zs, rfl, rfl, hH, hB, hz, q⟩ := h
  cases rx
  cases ry
  obtain ⟨z, its, n, r, hl, e⟩ := Inv.lstR I hH
  obtain ⟨z2, its2, n2, r2, hl2, e2⟩ := Inv.lstR I hB
  refine PySem.P.add_list e e2 ?_ (by rw [List.size_toArray, List.size_toArray]; omega)
  have ea : its.toArray ++ its2.toArray = (its ++ its2).toArray := by simp
  rw [ea]
  exact ⟨.ref _, _, I.lnew (t' := s.toks) (r.append r2) (by rw [List.length_append]; omega), rfl, q _ I.fresh⟩
/-- .. the first one of the module's -/
def rCatK (K : PySem.W.Frag) : R2 := fun x y H Q => ∃ l b xs zs, x = .ref l ∧ y = .ref b ∧ SqL K H l xs ∧ SqL K H b zs ∧ xs.length + zs.length ≤ sizeLine ∧ ∀ p, H p = none → Q (.ref p) (upd H p (.lst (xs ++ zs)))
theorem op_catK : OpR X (binaryOp .Add) (rCatK X.K) := by
  intro pins s σ H x y v u Q I rx ry h
  obtain ⟨l, b, xs, zs, rfl, rfl, hl, hb, hz, q⟩ := h
  cases rx
  cases ry
  obtain ⟨its, r, p, z⟩ := I.list hl
  obtain ⟨its2, r2, p2, z2⟩ := I.list hb
  obtain ⟨⟨c1, d1, t1, s1⟩, e1, k1, n1, j1⟩ := p.isList
  obtain ⟨⟨c2, d2, t2, s2⟩, e2, k2, n2, j2⟩ := p2.isList
  dsimp only at k1 j1 k2 j2
  subst k1 j1 k2 j2
  have hz' : its.toArray.size + its2.toArray.size ≤ sizeLine := by rw [List.size_toArray, List.size_toArray, ← r.length, ← r2.length]; exact hz
  refine concat_meets ⟨_, e1, rfl⟩ ⟨_, e2, rfl⟩ noFill_list_add seq_list_add PySem.F.slot_list_add PySem.F.entry_list_add (PySem.F.args_list_add_2 _ _) (list_addW l b _ _ n1 n2 d1 d2 s1 s2 hz') ⟨e1, e2, ?_⟩
  have ea : its.toArray ++ its2.toArray = (its ++ its2).toArray := by simp
  rw [ea]
  exact ⟨.ref _, _, I.lnew (t' := s.toks) (r.append r2) (by rw [List.length_append]; exact hz), rfl, q _ I.fresh⟩
theorem o_add : Op2 X (binaryOp .Add) opAdd := by
  refine ⟨fun d e K K' i q => ?_, fun pins s σ H g d e x y v u K I tr c1 c2 r1 r2 q => ?_⟩
  · unfold opAdd at q ⊢
    split at q <;> first | exact i _ q | exact ⟨q.1, i _ q.2⟩ | exact q
  · unfold opAdd at q
    split at q
    · rw [c1.int] at r1; rw [c2.int] at r2
      exact op_add pins s σ H _ _ v u _ I r1 r2 ⟨_, _, rfl, rfl, rk_int q⟩
    · obtain ⟨a, vs, rfl, h1, h2⟩ := c1.tup
      obtain ⟨b, ws, rfl, k1, k2⟩ := c2.tup
      refine op_catA pins s σ H _ _ v u _ I r1 r2 ⟨a, b, vs, ws, rfl, rfl, SqT.at h1, SqT.at k1, by rw [← h2.length, ← k2.length]; exact q.1, fun e => ?_, fun e e' => ?_, fun _ _ p hp => rk_tup tr (h2.append k2) hp q.2⟩
      · subst e; cases h2
        exact rk_rep (.tup k1 k2) q.2
      · subst e'; cases k2
        exact rk_rep (.tup h1 h2) (by rw [List.append_nil] at q; exact q.2)
    · obtain ⟨a, vs, rfl, h1, h2⟩ := c1.lst
      obtain ⟨b, ws, rfl, k1, k2⟩ := c2.lst
      exact op_catR pins s σ H _ _ v u _ I r1 r2 ⟨a, b, vs, ws, rfl, rfl, h1, k1, by rw [← h2.length, ← k2.length]; exact q.1, fun p hp => rk_lst tr (h2.append k2) hp q.2⟩
    · rw [c1.str] at r1; rw [c2.str] at r2
      exact op_add_str pins s σ H _ _ v u _ I r1 r2 ⟨_, _, rfl, rfl, q.1, rk_str q.2⟩
    · obtain ⟨a, vs, rfl, h1, h2⟩ := c1.kst
      obtain ⟨b, ws, rfl, k1, k2⟩ := c2.lst
      exact op_catK pins s σ H _ _ v u _ I r1 r2 ⟨a, b, vs, ws, rfl, rfl, h1.sq, .inl k1, by rw [← h2.length, ← k2.length]; exact q.1, fun p hp => rk_lst tr (h2.append k2) hp q.2⟩
    · rw [c1.bl] at r1; rw [c2.int] at r2
      cases r1
      obtain ⟨t, rfl⟩ := r2
      exact IntBool.add_bool_int ⟨.int _, H, I.tok _, ⟨_, rfl⟩, rk_int q⟩
    · exact q.elim
/-! ### ints alone -/
def opInt (C : Int → Int → Prop) (f : Int → Int → D) : O2
  | .int i, .int j, K => C i j ∧ K (.val (f i j))
  | _, _, _ => False
theorem o_intI {f : Value → Value → Sem Value} {C : Int → Int → Prop} {k : Int → Int → Int} (h : OpR X f (rI C fun i j => .int (k i j))) : Op2 X f (opInt C fun i j => .int (k i j)) := by
  refine ⟨fun d e K K' i q => ?_, fun pins s σ H g d e x y v u K I tr c1 c2 r1 r2 q => ?_⟩
  · unfold opInt at q ⊢
    split at q <;> first | exact ⟨q.1, i _ q.2⟩ | exact q
  · unfold opInt at q
    split at q
    · rw [c1.int] at r1; rw [c2.int] at r2
      exact h pins s σ H _ _ v u _ I r1 r2 ⟨_, _, rfl, rfl, q.1, rk_int q.2⟩
    · exact q.elim
def opInt0 (f : Int → Int → D) : O2
  | .int i, .int j, K => K (.val (f i j))
  | _, _, _ => False
theorem o_int0 {f : Value → Value → Sem Value} {k : Int → Int → Int} (h : OpR X f (rI0 fun i j => .int (k i j))) : Op2 X f (opInt0 fun i j => .int (k i j)) := by
  refine ⟨fun d e K K' i q => ?_, fun pins s σ H g d e x y v u K I tr c1 c2 r1 r2 q => ?_⟩
  · unfold opInt0 at q ⊢
    split at q <;> first | exact i _ q | exact q
  · unfold opInt0 at q
    split at q
    · rw [c1.int] at r1; rw [c2.int] at r2
      exact h pins s σ H _ _ v u _ I r1 r2 ⟨_, _, rfl, rfl, rk_int q⟩
    · exact q.elim
theorem o_cmp0 {f : Value → Value → Sem Value} {k : Int → Int → Bool} (h : OpR X f (rI0 fun i j => .bl (k i j))) : Op2 X f (opInt0 fun i j => .bl (k i j)) := by
  refine ⟨fun d e K K' i q => ?_, fun pins s σ H g d e x y v u K I tr c1 c2 r1 r2 q => ?_⟩
  · unfold opInt0 at q ⊢
    split at q <;> first | exact i _ q | exact q
  · unfold opInt0 at q
    split at q
    · rw [c1.int] at r1; rw [c2.int] at r2
      exact h pins s σ H _ _ v u _ I r1 r2 ⟨_, _, rfl, rfl, rk_bl q⟩
    · exact q.elim
abbrev opSub : O2 := opInt0 fun i j => .int (i - j)
abbrev opMod : O2 := opInt (fun _ j => 0 < j) fun i j => .int (i % j)
abbrev opDiv : O2 := opInt CDiv fun i j => .int (i / j)
abbrev opPow : O2 := opInt CPow fun i j => .int (i ^ j.toNat)
abbrev opLt : O2 := opInt0 fun i j => .bl (decide (i < j))
abbrev opLe : O2 := opInt0 fun i j => .bl (decide (i ≤ j))
abbrev opGt : O2 := opInt0 fun i j => .bl (decide (j < i))
abbrev opGe : O2 := opInt0 fun i j => .bl (decide (j ≤ i))
theorem o_sub : Op2 X (binaryOp .Sub) opSub := o_int0 op_sub
theorem o_mod : Op2 X (binaryOp .Mod) opMod := o_intI op_mod
theorem o_div : Op2 X (binaryOp .FloorDiv) opDiv := o_intI op_fdiv
theorem o_pow : Op2 X (binaryOp .Pow) opPow := o_intI op_pow
theorem o_lt : Op2 X (compareOp .Lt) opLt := o_cmp0 op_lt
theorem o_le : Op2 X (compareOp .LtE) opLe := o_cmp0 op_le
theorem o_gt : Op2 X (compareOp .Gt) opGt := o_cmp0 op_gt
theorem o_ge : Op2 X (compareOp .GtE) opGe := o_cmp0 op_ge
/-! ### * -/
def opMul : O2
  | .int i, .int j, K => CMul i j ∧ K (.val (.int (i * j)))
  | .tup xs, .int k, K => (xs ≠ [] ∧ 2 ≤ k ∧ k ≤ 1000 ∧ xs.length ≤ 1000) ∧ K (.val (.tup (List.replicate k.toNat xs).flatten))
  | .lst xs, .int k, K => (-(2 ^ 63) ≤ k ∧ k < 2 ^ 63 ∧ xs.length * k.toNat ≤ sizeLine) ∧ K (.own (.lst (List.replicate k.toNat xs).flatten))
  | _, _, _ => False
theorem RepAll.rep {mg : Str → Option Value} {w : WK} {g : Gh} {H : Hp} {ds : List D} {vs : List V} (r : RepAll mg w g H ds vs) : ∀ n, RepAll mg w g H (List.replicate n ds).flatten (List.replicate n vs).flatten
  | 0 => .nil
  | n + 1 => by
    rw [List.replicate_succ, List.replicate_succ, List.flatten_cons, List.flatten_cons]
    exact r.append (RepAll.rep r n)
/-- a list in H by its datum, made writable for the layer's rule -/
def rRepR : R2 := fun x y H Q => ∃ l k xs, x = .ref l ∧ y = .int k ∧ Rd H l (.lst xs) ∧ -(2 ^ 63) ≤ k ∧ k < 2 ^ 63 ∧ xs.length * k.toNat ≤ sizeLine ∧ ∀ p, H p = none → Q (.ref p) (upd H p (.lst (List.replicate k.toNat xs).flatten))
theorem op_repR : OpR X (binaryOp .Mult) rRepR := by
  intro pins s σ H x y v u Q I rx ry h
  obtain ⟨l, k, xs, rfl, rfl, hH, h1, h2, hz, q⟩ := h
  cases rx
  obtain ⟨t, rfl⟩ := ry
  obtain ⟨z, its, n, r, hl, e⟩ := Inv.lstR I hH
  have hlen : its.toArray.size * k.toNat ≤ sizeLine := by rw [List.size_toArray, ← hl]; exact hz
  have hcap : ¬ its.toArray.size * k.toNat > (2 ^ 63 - 1) / 8 := by
    have : (sizeLine : Nat) ≤ (2 ^ 63 - 1) / 8 := by decide
    omega
  have hfit : ¬ (!Builtin.List.listFitsIndex k) = true := by
    rw [fitsIndex_both h1 h2]
    exact Bool.false_ne_true
  have hlong : ¬ Builtin.List.listTooLong (its.toArray.size * k.toNat) = true := by
    rw [notLongL hlen]
    exact Bool.false_ne_true
  have hnew : List.foldl (fun x1 x2 => x1 ++ x2) #[] (List.replicate (if its.toArray.isEmpty = true then 0 else k.toNat) its.toArray) = (List.replicate k.toNat its).flatten.toArray := by
    have f0 : ∀ m : Nat, List.foldl (fun x1 x2 => x1 ++ x2) #[] (List.replicate m its.toArray) = (List.replicate m its).flatten.toArray := fun m => by
      have := foldl_rep its m []
      rw [List.nil_append] at this
      exact this
    rw [f0]
    cases its with
    | nil => simp
    | cons a r' => rw [if_neg (by simp)]
  refine wpAny_binaryOp_repeat_ref (T := "list") (U := "int") (by decide) ⟨_, e, rfl⟩ (fun s' => typeIs_int s' k t) noFill_list_mul F.fills_int_mul F.slot_int_rmul repeat_list F.slot_int_index.lookup
    (call_meets F.slot_int_rmul (typeIs_int s k t) F.entry_int_rmul (F.args_int_rmul_2 _ _) (int___rmul___int_list k t l its.toArray n)
      ⟨e, rfl, ⟨_, e, rfl⟩, call_meets F.slot_list_mul ⟨_, e, rfl⟩ F.entry_list_mul (F.args_list_mul_2 _ _) (AutoListH.list___mul___list_int_3 l its.toArray n k t hfit hcap hlong) ⟨e, ?_⟩⟩)
  rw [hnew]
  exact ⟨.ref _, _, I.lnew (t' := s.toks) (r.rep k.toNat) (by rw [PyProof.Rows.lm_len_rep_flat, Nat.mul_comm]; exact hz), rfl, q _ I.fresh⟩
theorem o_mul : Op2 X (binaryOp .Mult) opMul := by
  refine ⟨fun d e K K' i q => ?_, fun pins s σ H g d e x y v u K I tr c1 c2 r1 r2 q => ?_⟩
  · unfold opMul at q ⊢
    split at q <;> first | exact ⟨q.1, i _ q.2⟩ | exact q
  · unfold opMul at q
    split at q
    · rw [c1.int] at r1; rw [c2.int] at r2
      exact op_mul pins s σ H _ _ v u _ I r1 r2 ⟨_, _, rfl, rfl, q.1, rk_int q.2⟩
    · obtain ⟨a, vs, rfl, h1, h2⟩ := c1.tup
      rw [c2.int] at r2
      obtain ⟨⟨q1, q2, q3, q4⟩, q⟩ := q
      exact op_repT pins s σ H _ _ v u _ I r1 r2 ⟨a, _, vs, rfl, rfl, SqT.at h1, fun e => q1 (by subst e; cases h2; rfl), q2, q3, by rw [← h2.length]; exact q4, fun p hp => rk_tup tr (h2.rep _) hp q⟩
    · obtain ⟨a, vs, rfl, h1, h2⟩ := c1.lst
      rw [c2.int] at r2
      obtain ⟨⟨q1, q2, q3⟩, q⟩ := q
      exact op_repR pins s σ H _ _ v u _ I r1 r2 ⟨a, _, vs, rfl, rfl, h1, q1, q2, by rw [← h2.length]; exact q3, fun p hp => rk_lst tr (h2.rep _) hp q⟩
    · exact q.elim
/-! ### is -/
def D.isNon : D → Bool
  | .non => true
  | .bl _ => false
  | .int _ => false
  | .str _ => false
  | .tup _ => false
  | .lst _ => false
  | .dct _ _ => false
  | .ref _ => false
  | .fn _ => false
  | .kst _ => false
  | .opq => false
def opIs (neg : Bool) : O2
  | .bl a, .bl b, K => K (.val (.bl (if neg then !decide (a = b) else decide (a = b))))
  | d, .non, K => K (.val (.bl (if neg then !d.isNon else d.isNon)))
  | _, _, _ => False
theorem cont_non {g : Gh} {H : Hp} {d : D} {x : V} (c : Cont X.mg X.wk g H d x) : decide (x = .non) = d.isNon := by
  rcases c with r | ⟨a, m, rfl, rfl, h⟩
  · cases r <;> rfl
  · cases m <;> rfl
theorem o_is : Op2 X (compareOp .Is) (opIs false) := by
  refine ⟨fun d e K K' i q => ?_, fun pins s σ H g d e x y v u K I tr c1 c2 r1 r2 q => ?_⟩
  · unfold opIs at q ⊢
    split at q <;> first | exact i _ q | exact q
  · unfold opIs at q
    split at q
    · rw [c1.bl] at r1; rw [c2.bl] at r2
      exact op_is_bl pins s σ H _ _ v u _ I r1 r2 ⟨_, _, rfl, rfl, rk_bl q⟩
    · rw [c2.non] at r2
      refine op_isN pins s σ H _ _ v u _ I r1 r2 ⟨rfl, ?_⟩
      rw [cont_non c1]
      exact rk_bl q
    · exact q.elim
theorem o_isnot : Op2 X (compareOp .IsNot) (opIs true) := by
  refine ⟨fun d e K K' i q => ?_, fun pins s σ H g d e x y v u K I tr c1 c2 r1 r2 q => ?_⟩
  · unfold opIs at q ⊢
    split at q <;> first | exact i _ q | exact q
  · unfold opIs at q
    split at q
    · rw [c1.bl] at r1; rw [c2.bl] at r2
      exact op_isnot_bl pins s σ H _ _ v u _ I r1 r2 ⟨_, _, rfl, rfl, rk_bl q⟩
    · rw [c2.non] at r2
      refine op_notN pins s σ H _ _ v u _ I r1 r2 ⟨rfl, ?_⟩
      rw [cont_non c1]
      exact rk_bl q
    · exact q.elim
end

/-! ### == -/
mutual
def D.pd : D → PyData
  | .non => .none
  | .bl b => .bool b
  | .int i => .int i
  | .str x => .str x
  | .tup xs => .tuple (D.pds xs)
  | .lst xs => .list (D.pds xs)
  | .dct _ _ => .none
  | .ref _ => .none
  | .fn _ => .none
  | .kst _ => .none
  | .opq => .none
def D.pds : List D → List PyData
  | [] => []
  | x :: xs => D.pd x :: D.pds xs
end
mutual
/-- data without dicts, references, defs; texts as they may be -/
def D.isData : D → Bool
  | .non => true
  | .bl _ => true
  | .int _ => true
  | .str x => PyData.strOk x
  | .tup xs => D.allData xs
  | .lst xs => D.allData xs
  | .dct _ _ => false
  | .ref _ => false
  | .fn _ => false
  | .kst _ => false
  | .opq => false
def D.allData : List D → Bool
  | [] => true
  | x :: xs => D.isData x && D.allData xs
end
mutual
def D.eqv : D → D → Bool
  | .non, e => match e with | .non => true | _ => false
  | .bl a, e => match e with | .bl b => a == b | .int j => (if a then 1 else 0) == j | _ => false
  | .int i, e => match e with | .int j => i == j | .bl b => i == (if b then 1 else 0) | _ => false
  | .str x, e => match e with | .str y => x == y | _ => false
  | .tup xs, e => match e with | .tup ys => D.eqvs xs ys | _ => false
  | .lst xs, e => match e with | .lst ys => D.eqvs xs ys | _ => false
  | .dct _ _, _ => false
  | .ref _, _ => false
  | .fn _, _ => false
  | .kst _, _ => false
  | .opq, _ => false
def D.eqvs : List D → List D → Bool
  | [], ys => match ys with | [] => true | _ :: _ => false
  | x :: xs, ys => match ys with | [] => false | y :: ys => D.eqv x y && D.eqvs xs ys
end
mutual
def D.dep : D → Nat
  | .tup xs => D.deps xs + 1
  | .lst xs => D.deps xs + 1
  | .non => 0
  | .bl _ => 0
  | .int _ => 0
  | .str _ => 0
  | .dct _ _ => 0
  | .ref _ => 0
  | .fn _ => 0
  | .kst _ => 0
  | .opq => 0
def D.deps : List D → Nat
  | [] => 0
  | x :: xs => max (D.dep x) (D.deps xs)
end
end VC

set_option Elab.async false
set_option linter.all false
set_option maxRecDepth 100000
set_option maxHeartbeats 4000000
/-! VD: equality, tests, displays, calls. -/
namespace VC
open PySem PySem.Spec PyProof.Rows L2

mutual
theorem eqv_pd : ∀ d e : D, d.isData = true → e.isData = true → D.eqv d e = PyData.eqv d.pd e.pd
  | .non, e, _, h => by cases e <;> first | (simp [D.isData] at h; done) | simp [D.eqv, D.pd, PyData.eqv]
  | .bl a, e, _, h => by cases e <;> first | (simp [D.isData] at h; done) | simp [D.eqv, D.pd, PyData.eqv]
  | .int a, e, _, h => by cases e <;> first | (simp [D.isData] at h; done) | simp [D.eqv, D.pd, PyData.eqv]
  | .str a, e, _, h => by cases e <;> first | (simp [D.isData] at h; done) | simp [D.eqv, D.pd, PyData.eqv]
  | .tup xs, e, k, h => by
    cases e with
    | tup ys =>
      simp only [D.isData] at h k
      simp only [D.eqv, D.pd, PyData.eqv]
      exact eqvs_pd xs ys k h
    | _ => first | (simp [D.isData] at h; done) | simp [D.eqv, D.pd, PyData.eqv]
  | .lst xs, e, k, h => by
    cases e with
    | lst ys =>
      simp only [D.isData] at h k
      simp only [D.eqv, D.pd, PyData.eqv]
      exact eqvs_pd xs ys k h
    | _ => first | (simp [D.isData] at h; done) | simp [D.eqv, D.pd, PyData.eqv]
  | .dct _ _, _, k, _ => by simp [D.isData] at k
  | .ref _, _, k, _ => by simp [D.isData] at k
  | .fn _, _, k, _ => by simp [D.isData] at k
  | .kst _, _, k, _ => by simp [D.isData] at k
  | .opq, _, k, _ => by simp [D.isData] at k
theorem eqvs_pd : ∀ ds es : List D, D.allData ds = true → D.allData es = true → D.eqvs ds es = PyData.eqvAll (D.pds ds) (D.pds es)
  | [], ys, _, _ => by cases ys <;> simp [D.eqvs, D.pds, PyData.eqvAll]
  | x :: xs, ys, k, h => by
    cases ys with
    | nil => simp [D.eqvs, D.pds, PyData.eqvAll]
    | cons y ys =>
      simp only [D.allData, Bool.and_eq_true] at h k
      simp only [D.eqvs, D.pds, PyData.eqvAll]
      rw [eqv_pd x y k.1 h.1, eqvs_pd xs ys k.2 h.2]
end
section
variable {mg : Str → Option Value} {w : WK} {g : Gh} {H : Hp} {K : PySem.W.Frag}
mutual
theorem Rep.dp : ∀ {d : D} {v : V}, Rep mg w g H d v → d.isData = true → Dp K H v d.pd
  | _, _, .non, _ => .non
  | _, _, .bl _, _ => .bl _
  | _, _, .int _, _ => .int _
  | _, _, .str _, _ => .str _
  | _, _, .tup h1 h2, q => .tup (SqT.at h1) (RepAll.dp h2 (by simpa [D.isData] using q))
  | _, _, .lst _ h1 h2, q => .lst (.inl h1) (RepAll.dp h2 (by simpa [D.isData] using q))
  | _, _, .dct _ _ _ _ _, q => by simp [D.isData] at q
  | _, _, .ref _, q => by simp [D.isData] at q
  | _, _, .fn _, q => by simp [D.isData] at q
  | _, _, .kst _ _, q => by simp [D.isData] at q
  | _, _, .opq, q => by simp [D.isData] at q
theorem RepAll.dp : ∀ {ds : List D} {vs : List V}, RepAll mg w g H ds vs → D.allData ds = true → DpAll K H vs (D.pds ds)
  | _, _, .nil, _ => .nil
  | _, _, .cons h1 h2, q => .cons (Rep.dp h1 (by simp only [D.allData, Bool.and_eq_true] at q; exact q.1)) (RepAll.dp h2 (by simp only [D.allData, Bool.and_eq_true] at q; exact q.2))
end
theorem Cont.dp {d : D} {v : V} (c : Cont mg w g H d v) (q : d.isData = true) : Dp K H v d.pd := by
  rcases c with r | ⟨a, m, rfl, rfl, h⟩
  · exact r.dp q
  · cases m with
    | lst ds => obtain ⟨vs, h1, h2⟩ := h; exact .lst (SqL.of h1) (h2.dp (by simpa [D.isData] using q))
    | dct ks ds => simp [D.isData] at q
    | ins _ _ _ => simp [D.isData] at q
    | tbl _ => simp [D.isData] at q
end
/-- data that may be compared -/
def D.cmp (d : D) : Bool := d.isData && SeqAt.shaped d.pd
def opEq (neg : Bool) : O2
  | .int i, .int j, K => K (.val (.bl (if neg then !decide (i = j) else decide (i = j))))
  | .str i, .str j, K => K (.val (.bl (if neg then !decide (i = j) else decide (i = j))))
  | d, e, K => (d.cmp = true ∧ e.cmp = true) ∧ K (.val (.bl (if neg then !D.eqv d e else D.eqv d e)))
section
variable {X : Cx}
theorem opEq_mono (neg : Bool) : Mo2 (opEq neg) := fun d e K K' i q => by
  unfold opEq at q ⊢
  split at q <;> first | exact i _ q | exact ⟨q.1, i _ q.2⟩
theorem o_eq (hu : X.A.units + 64 < cLine) : Op2 X (compareOp .Eq) (opEq false) := by
  refine ⟨opEq_mono _, fun pins s σ H g d e x y v u K I tr c1 c2 r1 r2 q => ?_⟩
  unfold opEq at q
  split at q
  · rw [c1.int] at r1; rw [c2.int] at r2
    refine op_eq pins s σ H _ _ v u _ I r1 r2 ⟨rfl, ?_⟩
    rw [dec_int, Bool.beq_eq_decide_eq]
    exact rk_bl q
  · rw [c1.str] at r1; rw [c2.str] at r2
    refine op_eq pins s σ H _ _ v u _ I r1 r2 ⟨rfl, ?_⟩
    rw [dec_str, Bool.beq_eq_decide_eq]
    exact rk_bl q
  · obtain ⟨⟨q1, q2⟩, q⟩ := q
    simp only [D.cmp, Bool.and_eq_true] at q1 q2
    refine op_eqD hu pins s σ H _ _ v u _ I r1 r2 ⟨_, _, c1.dp q1.1, c2.dp q2.1, q1.2, q2.2, ?_⟩
    rw [← eqv_pd _ _ q1.1 q2.1]
    exact rk_bl q
theorem o_ne (hu : X.A.units + 64 < cLine) : Op2 X (compareOp .NotEq) (opEq true) := by
  refine ⟨opEq_mono _, fun pins s σ H g d e x y v u K I tr c1 c2 r1 r2 q => ?_⟩
  unfold opEq at q
  split at q
  · rw [c1.int] at r1; rw [c2.int] at r2
    refine op_ne pins s σ H _ _ v u _ I r1 r2 ⟨rfl, ?_⟩
    rw [dec_int, Bool.beq_eq_decide_eq]
    exact rk_bl q
  · rw [c1.str] at r1; rw [c2.str] at r2
    refine op_ne pins s σ H _ _ v u _ I r1 r2 ⟨rfl, ?_⟩
    rw [dec_str, Bool.beq_eq_decide_eq]
    exact rk_bl q
  · obtain ⟨⟨q1, q2⟩, q⟩ := q
    simp only [D.cmp, Bool.and_eq_true] at q1 q2
    refine op_neD hu pins s σ H _ _ v u _ I r1 r2 ⟨_, _, c1.dp q1.1, c2.dp q2.1, q1.2, q2.2, ?_⟩
    rw [← eqv_pd _ _ q1.1 q2.1]
    exact rk_bl q

/-! ### tests -/
variable {B : Hp} {g0 : Gh} {e a b c : Expr} {es rest : List Expr} {pos : Pos}
def tb : T → (Bool → Prop) → Prop
  | .val (.bl k), K => K k
  | _, _ => False
theorem tb_mono {t : T} {K K' : Bool → Prop} (i : ∀ k, K k → K' k) (q : tb t K) : tb t K' := by
  unfold tb at q ⊢
  split at q <;> first | exact i _ q | exact q
theorem tb_bl {t : T} {K : Bool → Prop} (q : tb t K) : ∃ k, t = .val (.bl k) ∧ K k := by
  unfold tb at q
  split at q
  · exact ⟨_, rfl, q⟩
  · exact q.elim
def wTst (W : WE) : WT := fun env S Q => W env S fun t env' S' => tb t fun k => Q k env' S'
theorem wTst_mono {W : WE} (m : Mo W) : Mo (wTst W) := fun _ _ _ _ i q => m _ _ _ _ (fun _ _ _ q => tb_mono (fun _ => i _ _ _) q) q
theorem tst_imp {W : WE} {σ : L2.St} {H : Hp} {env : VEnv} {S : Sto} {g : Gh} {Q : Bool → VEnv → Sto → Prop} (R : Rp X.mg X.wk B g0 g H σ env S) (q : wTst W env S Q) : tE X B g0 W σ H fun x H1 => ∃ k, x = .bl k ∧ BQ X B g0 g H σ Q k H1 := by
  refine ⟨env, S, g, _, R, q, fun v H' ⟨g', t, env', S', st, R', rt, q'⟩ => ?_⟩
  obtain ⟨k, rfl, q'⟩ := tb_bl q'
  cases rt
  exact ⟨k, rfl, g', env', S', st, R', q'⟩
theorem vt_val {W : WE} (h : VE X B g0 e W) (he : ∀ whole, isTrue e X.env whole = (do let v ← whole; standAt e.pos; holding [v] (truthy v)) := by intro _; rfl) : VT X B g0 e (wTst W) :=
  VT.of (wTst_mono h.mono) (pt_val h.pe he) fun σ H env S g Q R q => tst_imp R q
theorem vt_cmp {op : CmpOp} {o : O2} {Wa Wb : WO} (ho : Op2 X (compareOp op) o) (ha : VO X B g0 a Wa) (hb : VO X B g0 b Wb) (hm : behindInMarks op b = false := by first | exact nomark _ | rfl) : VT X B g0 (.Compare a [op] [b] pos) (wTst (wB o Wa Wb)) := by
  refine VT.of (wTst_mono (wB_mono ho.mono ha.mono hb.mono)) (pt_cmpR ho.opr ha.pe hb.pe hm) fun σ H env S g Q R q => ?_
  refine ⟨env, S, g, _, R, q, fun x H1 ⟨g1, d, env1, S1, st1, R1, t1, q1⟩ => ⟨env1, S1, g1, _, R1, q1, fun y H2 ⟨g2, e, env2, S2, st2, R2, t2, q2⟩ => ?_⟩⟩
  refine ⟨g2, _, _, _, R2.sto.tr, (t1.stp st2).cont R2.sto, t2.cont R2.sto, q2, fun z H3 ⟨t, hn, rr, k⟩ => ?_⟩
  obtain ⟨k', rfl, k⟩ := tb_bl k
  cases rr
  exact ⟨k', rfl, g2, env2, S2, (st1.trans st2).trans (hn.stp R2.sto.tr), R2.new hn, k⟩
def wNot (W : WT) : WT := fun env S Q => W env S fun c env' S' => Q (!c) env' S'
theorem vt_not {W : WT} (h : VT X B g0 e W) : VT X B g0 (.UnaryOp .Not e pos) (wNot W) :=
  VT.of (fun _ _ _ _ i q => h.mono _ _ _ _ (fun _ _ _ => i _ _ _) q) (pt_not h.pt) fun σ H env S g Q R q => ⟨env, S, g, _, R, q, fun k H' q => q⟩
def wAnd (Wa Wb : WT) : WT := fun env S Q => Wa env S fun c env' S' => Ite c (Wb env' S' Q) (Q false env' S')
def wOr (Wa Wb : WT) : WT := fun env S Q => Wa env S fun c env' S' => Ite c (Q true env' S') (Wb env' S' Q)
theorem wAnd_mono {Wa Wb : WT} (ma : Mo Wa) (mb : Mo Wb) : Mo (wAnd Wa Wb) := fun _ _ _ _ i q => ma _ _ _ _ (fun c _ _ q => q.mono (mb _ _ _ _ i) (i _ _ _)) q
theorem wOr_mono {Wa Wb : WT} (ma : Mo Wa) (mb : Mo Wb) : Mo (wOr Wa Wb) := fun _ _ _ _ i q => ma _ _ _ _ (fun c _ _ q => q.mono (i _ _ _) (mb _ _ _ _ i)) q
theorem vw_and1 {W : WT} (h : VT X B g0 a W) : VW X B g0 (.BoolOp .And [a] pos) W := ⟨h.mono, pw_and1 h.pt⟩
theorem vw_or1 {W : WT} (h : VT X B g0 a W) : VW X B g0 (.BoolOp .Or [a] pos) W := ⟨h.mono, pw_or1 h.pt⟩
theorem BQ.stp {g g1 : Gh} {H H1 H2 : Hp} {σ : L2.St} {Q : Bool → VEnv → Sto → Prop} {k : Bool} (st : Stp g H g1 H1) (q : BQ X B g0 g1 H1 σ Q k H2) : BQ X B g0 g H σ Q k H2 :=
  let ⟨g', env', S', st', R', q⟩ := q; ⟨g', env', S', st.trans st', R', q⟩
theorem VQ.stp {g g1 : Gh} {H H1 H2 : Hp} {σ : L2.St} {Q : T → VEnv → Sto → Prop} {k : V} (st : Stp g H g1 H1) (q : VQ X B g0 g1 H1 σ Q k H2) : VQ X B g0 g H σ Q k H2 :=
  let ⟨g', t, env', S', st', R', q⟩ := q; ⟨g', t, env', S', st.trans st', R', q⟩
theorem vw_and {Wa Wb : WT} (ha : VT X B g0 a Wa) (hb : VW X B g0 (.BoolOp .And (b :: rest) pos) Wb) : VW X B g0 (.BoolOp .And (a :: b :: rest) pos) (wAnd Wa Wb) := by
  refine VW.of (wAnd_mono ha.mono hb.mono) (pw_and ha.pt hb.pw) fun σ H env S g Q R q => ?_
  refine ⟨env, S, g, _, R, q, fun k H' ⟨g1, env1, S1, st, R1, q1⟩ => ?_⟩
  cases k with
  | true => exact ⟨env1, S1, g1, _, R1, q1.t, fun _ _ q => BQ.stp st q⟩
  | false => exact ⟨g1, env1, S1, st, R1, q1.f⟩
theorem vw_or {Wa Wb : WT} (ha : VT X B g0 a Wa) (hb : VW X B g0 (.BoolOp .Or (b :: rest) pos) Wb) : VW X B g0 (.BoolOp .Or (a :: b :: rest) pos) (wOr Wa Wb) := by
  refine VW.of (wOr_mono ha.mono hb.mono) (pw_or ha.pt hb.pw) fun σ H env S g Q R q => ?_
  refine ⟨env, S, g, _, R, q, fun k H' ⟨g1, env1, S1, st, R1, q1⟩ => ?_⟩
  cases k with
  | false => exact ⟨env1, S1, g1, _, R1, q1.f, fun _ _ q => BQ.stp st q⟩
  | true => exact ⟨g1, env1, S1, st, R1, q1.t⟩
/-! .. as values -/
def vAnd (Wa Wb : WE) : WE := fun env S Q => Wa env S fun t env' S' => tb t fun c => Ite c (Wb env' S' Q) (Q (.val (.bl false)) env' S')
def vOr (Wa Wb : WE) : WE := fun env S Q => Wa env S fun t env' S' => tb t fun c => Ite c (Q (.val (.bl true)) env' S') (Wb env' S' Q)
theorem ve_one {op : BoolOp} {W : WE} (h : VE X B g0 a W) : VE X B g0 (.BoolOp op [a] pos) W := ⟨h.mono, pe_one h.pe⟩
theorem ve_and {Wa Wb : WE} (ha : VE X B g0 a Wa) (hb : VE X B g0 (.BoolOp .And (b :: rest) pos) Wb) : VE X B g0 (.BoolOp .And (a :: b :: rest) pos) (vAnd Wa Wb) := by
  refine VE.of (fun _ _ _ _ i q => ha.mono _ _ _ _ (fun t _ _ q => tb_mono (fun c q => ?_) q) q) (pe_and ha.pe hb.pe) fun σ H env S g Q R q => ?_
  · exact q.mono (hb.mono _ _ _ _ i) (i _ _ _)
  · refine ⟨env, S, g, _, R, q, fun v H' ⟨g1, t, env1, S1, st, R1, rt, q1⟩ => ?_⟩
    obtain ⟨c, rfl, q1⟩ := tb_bl q1
    cases rt
    refine ⟨c, rfl, ?_⟩
    cases c with
    | true => exact ⟨env1, S1, g1, _, R1, q1.t, fun _ _ q => VQ.stp st q⟩
    | false => exact ⟨g1, .val (.bl false), env1, S1, st, R1, Rep.bl _, q1.f⟩
def vNot (W : WE) : WE := fun env S Q => W env S fun t env' S' => tb t fun c => Q (.val (.bl (!c))) env' S'
theorem ve_not {W : WE} (h : VE X B g0 a W) : VE X B g0 (.UnaryOp .Not a pos) (vNot W) := by
  refine VE.of (fun _ _ _ _ i q => h.mono _ _ _ _ (fun t _ _ q => tb_mono (fun c q => i _ _ _ q) q) q) (pe_not h.pe) fun σ H env S g Q R q => ?_
  refine ⟨env, S, g, _, R, q, fun v H' ⟨g1, t, env1, S1, st, R1, rt, q1⟩ => ?_⟩
  obtain ⟨c, rfl, q1⟩ := tb_bl q1
  cases rt
  exact ⟨c, rfl, g1, .val (.bl (!c)), env1, S1, st, R1, Rep.bl _, q1⟩
/-- a if t else b -/
def wIf (Wt : WT) (Wa Wb : WE) : WE := fun env S Q => Wt env S fun c env' S' => Ite c (Wa env' S' Q) (Wb env' S' Q)
theorem ve_if {Wt : WT} {Wa Wb : WE} (hc : VT X B g0 c Wt) (ha : VE X B g0 a Wa) (hb : VE X B g0 b Wb) : VE X B g0 (.IfExp c a b pos) (wIf Wt Wa Wb) := by
  refine VE.of (fun _ _ _ _ i q => hc.mono _ _ _ _ (fun c _ _ q => ?_) q) (pe_ifExp hc.pt ha.pe hb.pe) fun σ H env S g Q R q => ?_
  · exact q.mono (ha.mono _ _ _ _ i) (hb.mono _ _ _ _ i)
  · refine ⟨env, S, g, _, R, q, fun k H' ⟨g1, env1, S1, st, R1, q1⟩ => ?_⟩
    cases k with
    | true => exact ⟨env1, S1, g1, _, R1, q1.t, fun _ _ q => VQ.stp st q⟩
    | false => exact ⟨env1, S1, g1, _, R1, q1.f, fun _ _ q => VQ.stp st q⟩
/-- a op b op' c -/
def wCh (o o' : O2) (Wa Wb Wc : WO) : WE := fun env S Q => Wa env S fun d env1 S1 => Wb env1 S1 fun e env2 S2 => o (dr S2 d) (dr S2 e) fun t => tb t fun k =>
  Ite k (Wc env2 S2 fun f env3 S3 => o' (dr S3 e) (dr S3 f) fun t => Q t env3 S3) (Q (.val (.bl false)) env2 S2)
theorem ve_chain {op op' : CmpOp} {o o' : O2} {Wa Wb Wc : WO} (ho : Op2 X (compareOp op) o) (ho' : Op2 X (compareOp op') o') (ha : VO X B g0 a Wa) (hb : VO X B g0 b Wb) (hc : VO X B g0 c Wc)
    (hm : lastMarks [op, op'] [b, c] = false := by with_unfolding_all rfl) : VE X B g0 (.Compare a [op, op'] [b, c] pos) (wCh o o' Wa Wb Wc) := by
  refine VE.of (fun _ _ _ _ i q => ha.mono _ _ _ _ (fun _ _ _ q => hb.mono _ _ _ _ (fun _ _ _ q => ho.mono _ _ _ _ (fun t q => tb_mono (fun k q => ?_) q) q) q) q) (pe_chain ho.opr ho'.opr ha.pe hb.pe hc.pe hm) fun σ H env S g Q R q => ?_
  · exact q.mono (hc.mono _ _ _ _ (fun _ _ _ q => ho'.mono _ _ _ _ (fun _ q => i _ _ _ q) q)) (i _ _ _)
  · refine ⟨env, S, g, _, R, q, fun x H1 ⟨g1, d, env1, S1, st1, R1, t1, q1⟩ => ⟨env1, S1, g1, _, R1, q1, fun y H2 ⟨g2, e, env2, S2, st2, R2, t2, q2⟩ => ?_⟩⟩
    refine ⟨g2, _, _, _, R2.sto.tr, (t1.stp st2).cont R2.sto, t2.cont R2.sto, q2, fun z H3 ⟨t, hn, rr, k⟩ => ?_⟩
    obtain ⟨k', rfl, k⟩ := tb_bl k
    cases rr
    refine ⟨k', rfl, ?_⟩
    have st3 := hn.stp (g := g2) R2.sto.tr
    have R3 := R2.new hn
    cases k' with
    | true =>
      refine ⟨env2, S2, g2, _, R3, k.t, fun z4 H4 ⟨g4, f, env4, S4, st4, R4, t4, q4⟩ => ?_⟩
      refine ⟨g4, _, _, _, R4.sto.tr, ((t2.stp st3).stp st4).cont R4.sto, t4.cont R4.sto, q4, fun z5 H5 ⟨t5, hn5, rr5, k5⟩ => ?_⟩
      exact ⟨g4, t5, env4, S4, (((st1.trans st2).trans st3).trans st4).trans (hn5.stp R4.sto.tr), R4.new hn5, R4.rt hn5 rr5, k5⟩
    | false => exact ⟨g2, .val (.bl false), env2, S2, (st1.trans st2).trans st3, R3, Rep.bl _, k.f⟩

/-! ### argument lists, displays -/
def wA0 : WA := fun env S Q => Q [] env S
def wAC (We : WE) (Wr : WA) : WA := fun env S Q => We env S fun t env1 S1 => Wr env1 S1 fun ds env2 S2 => Q (t.d :: ds) env2 S2
def wUC (Wo : WO) (Wr : WA) : WA := fun env S Q => Wo env S fun d env1 S1 => Wr env1 S1 fun ds env2 S2 => Q (d :: ds) env2 S2
theorem va_nil : VA X B g0 [] wA0 := VA.of (fun _ _ _ _ i q => i _ _ _ q) pa_nil fun σ H env S g Q R q => ⟨g, [], env, S, Stp.refl g H, R, .nil, q⟩
theorem vu_nil : VU X B g0 [] wA0 := VU.of (fun _ _ _ _ i q => i _ _ _ q) pa_nil fun σ H env S g Q R q => ⟨g, [], env, S, Stp.refl g H, R, .nil, q⟩
theorem va_cons {We : WE} {Wr : WA} (h : VE X B g0 e We) (hr : VA X B g0 es Wr) (hs : starEach (e :: es) X.env = (false, eval e X.env) :: starEach es X.env := by rfl) : VA X B g0 (e :: es) (wAC We Wr) := by
  refine VA.of (fun _ _ _ _ i q => h.mono _ _ _ _ (fun _ _ _ q => hr.mono _ _ _ _ (fun _ _ _ q => i _ _ _ q) q) q) (pa_cons h.pe hr.pa hs) fun σ H env S g Q R q => ?_
  refine ⟨env, S, g, _, R, q, fun v H1 ⟨g1, t, env1, S1, st1, R1, rt, q1⟩ => ?_⟩
  obtain ⟨g2, st2, R2, rp⟩ := rt.hold R1
  refine ⟨env1, S1, g2, _, R2, q1, fun vs H3 ⟨g3, ds, env3, S3, st3, R3, ra, q3⟩ => ?_⟩
  exact ⟨g3, t.d :: ds, env3, S3, (st1.trans st2).trans st3, R3, .cons (rp.mono st3.toFz) ra, q3⟩
theorem TopAll.stp {mg : Str → Option Value} {w : WK} {g g' : Gh} {H H' : Hp} (z : Stp g H g' H') : ∀ {ds : List D} {vs : List V}, TopAll mg w g H ds vs → TopAll mg w g' H' ds vs
  | _, _, .nil => .nil
  | _, _, .cons h t => .cons (h.stp z) (TopAll.stp z t)
theorem vu_cons {Wo : WO} {Wr : WA} (h : VO X B g0 e Wo) (hr : VU X B g0 es Wr) (hs : starEach (e :: es) X.env = (false, eval e X.env) :: starEach es X.env := by rfl) : VU X B g0 (e :: es) (wUC Wo Wr) := by
  refine VU.of (fun _ _ _ _ i q => h.mono _ _ _ _ (fun _ _ _ q => hr.mono _ _ _ _ (fun _ _ _ q => i _ _ _ q) q) q) (pa_cons h.pe hr.pa hs) fun σ H env S g Q R q => ?_
  refine ⟨env, S, g, _, R, q, fun v H1 ⟨g1, t, env1, S1, st1, R1, rt, q1⟩ => ?_⟩
  refine ⟨env1, S1, g1, _, R1, q1, fun vs H3 ⟨g3, ds, env3, S3, st3, R3, ra, q3⟩ => ?_⟩
  exact ⟨g3, t :: ds, env3, S3, st1.trans st3, R3, .cons (rt.stp st3) ra, q3⟩
def wTup (W : WA) : WE := fun env S Q => W env S fun ds env1 S1 => ds.length ≤ 1000 ∧ Q (.val (.tup ds)) env1 S1
def wLst (W : WA) : WE := fun env S Q => W env S fun ds env1 S1 => ds.length ≤ 1000 ∧ Q (.own (.lst ds)) env1 S1
theorem if_false {p c : Prop} (h : c ∧ p) : c ∧ p := h
theorem if_mono {p p' c : Prop} (i : p → p') (h : c ∧ p) : c ∧ p' := ⟨h.1, i h.2⟩
theorem ve_tup {W : WA} {k : Nat} (h : VA X B g0 es W) : VE X B g0 (.Tuple es k pos) (wTup W) := by
  refine VE.of (fun _ _ _ _ i q => h.mono _ _ _ _ (fun _ _ _ q => if_mono (i _ _ _) q) q) (pe_tup h.pa) fun σ H env S g Q R q => ?_
  refine ⟨env, S, g, _, R, q, fun vs H1 ⟨g1, ds, env1, S1, st1, R1, ra, q1⟩ => ?_⟩
  obtain ⟨hl, q1⟩ := if_false q1
  refine ⟨by rw [← ra.length]; exact Nat.le_trans hl (by decide), fun p hp => ?_⟩
  have hn := New.upd (o := HO.tup vs) hp
  exact ⟨g1, .val (.tup ds), env1, S1, st1.trans (hn.stp R1.sto.tr), R1.new hn, Rep.tup upd_same (ra.mono (Fz.new hn R1.sto.tr)), q1⟩
theorem ve_lst {W : WA} (h : VA X B g0 es W) : VE X B g0 (.List es pos) (wLst W) := by
  refine VE.of (fun _ _ _ _ i q => h.mono _ _ _ _ (fun _ _ _ q => if_mono (i _ _ _) q) q) (pe_lst h.pa) fun σ H env S g Q R q => ?_
  refine ⟨env, S, g, _, R, q, fun vs H1 ⟨g1, ds, env1, S1, st1, R1, ra, q1⟩ => ?_⟩
  obtain ⟨hl, q1⟩ := if_false q1
  refine ⟨by rw [← ra.length]; exact Nat.le_trans hl (by decide), fun p hp => ?_⟩
  have hn := New.upd (o := HO.lst vs) hp
  exact ⟨g1, .own (.lst ds), env1, S1, st1.trans (hn.stp R1.sto.tr), R1.new hn, R1.rt hn ⟨p, rfl, ⟨vs, upd_same, ra.mono (Fz.new hn R1.sto.tr)⟩, hp⟩, q1⟩

/-! ### built-in functions and classes -/
inductive ContAll (mg : Str → Option Value) (w : WK) (g : Gh) (H : Hp) : List D → List V → Prop
  | nil : ContAll mg w g H [] []
  | cons {d v ds vs} : Cont mg w g H d v → ContAll mg w g H ds vs → ContAll mg w g H (d :: ds) (v :: vs)
theorem TopAll.cont {mg : Str → Option Value} {w : WK} {g : Gh} {H : Hp} {S : Sto} (R : StoOk mg w g H S) : ∀ {ds : List D} {vs : List V}, TopAll mg w g H ds vs → ContAll mg w g H (ds.map (dr S)) vs
  | _, _, .nil => .nil
  | _, _, .cons h t => .cons (h.cont R) (TopAll.cont R t)
structure OpN (X : Cx) (f : Value) (op : ON) : Prop where
  mono : MoN op
  run : ∀ (pins : List (Addr × Obj)) (s : Shared) (σ : L2.St) (H : Hp) (g : Gh) (ds : List D) (vs : List V) (us : List Value) (K : T → Prop), Inv X pins σ H s → (∀ a, g.F a → ∃ o, H a = some o) → ContAll X.mg X.wk g H ds vs → Vals vs us → op ds K →
    wpAny (model X.prog X.w) X.A (call f us) (EP X pins σ (RK X g H K)) X.xe s
def rN (X : Cx) (op : ON) : List V → Hp → VK → Prop := fun vs H Q => ∃ g ds K, (∀ a, g.F a → ∃ o, H a = some o) ∧ ContAll X.mg X.wk g H ds vs ∧ op ds K ∧ ∀ z H', RK X g H K z H' → Q z H'
theorem OpN.callr {f : Value} {op : ON} (h : OpN X f op) : CallR X f (rN X op) := fun pins s σ H vs us Q I r ⟨g, ds, K, tr, c, q, i⟩ =>
  thn (h.run pins s σ H g ds vs us K I tr c r q) fun _ _ z => EP.mono z i
def wCB (op : ON) (W : WA) : WE := fun env S Q => W env S fun ds env1 S1 => op (ds.map (dr S1)) fun t => Q t env1 S1
theorem cb_imp {op : ON} {W : WA} {σ : L2.St} {H : Hp} {env : VEnv} {S : Sto} {g : Gh} {Q : T → VEnv → Sto → Prop} (R : Rp X.mg X.wk B g0 g H σ env S) (q : wCB op W env S Q) : tCB (rN X op) (tU X B g0 W) σ H (VQ X B g0 g H σ Q) := by
  refine ⟨env, S, g, _, R, q, fun vs H1 ⟨g1, ds, env1, S1, st1, R1, ta, q1⟩ => ?_⟩
  refine ⟨g1, _, _, R1.sto.tr, ta.cont R1.sto, q1, fun z H2 ⟨t, hn, rr, k⟩ => ?_⟩
  exact ⟨g1, t, env1, S1, st1.trans (hn.stp R1.sto.tr), R1.new hn, R1.rt hn rr, k⟩
theorem wCB_mono {op : ON} {W : WA} (mo : MoN op) (m : Mo W) : Mo (wCB op W) := fun _ _ _ _ i q => m _ _ _ _ (fun _ _ _ q => mo _ _ _ (fun _ q => i _ _ _ q) q) q
theorem ve_callB {id : String} {op : ON} {x : Str} {p : Pos} {W : WA} (ho : OpN X (.builtin id) op) (hg : Gl X x) (hm : X.mg x = none) (hv : bootBuiltins x = some (.builtin id)) (ha : VU X B g0 (e :: es) W) (hn : x ≠ "__name__" := by decide) (hdb : (x == ("__debug__" : Str)) = false := by decide)
    (he : starEach (e :: es) X.env = (false, eval e X.env) :: starEach es X.env := by rfl) (hpl : (backTo pos (starEach es X.env)).any (·.1) = false := by rfl) : VE X B g0 (.Call (.Name x p) (e :: es) [] pos) (wCB op W) :=
  VE.of (wCB_mono ho.mono ha.mono) (pe_callB ho.callr hg hm hv ha.pa hn hdb he hpl) fun σ H env S g Q R q => cb_imp R q
theorem ve_callTy {T : String} {op : ON} {x : Str} {p : Pos} {W : WA} (ho : OpN X (.type T) op) (hg : Gl X x) (hm : X.mg x = none) (hv : bootBuiltins x = some (.type T)) (ha : VU X B g0 (e :: es) W) (hn : x ≠ "__name__" := by decide) (hdb : (x == ("__debug__" : Str)) = false := by decide)
    (he : starEach (e :: es) X.env = (false, eval e X.env) :: starEach es X.env := by rfl) (hpl : (backTo pos (starEach es X.env)).any (·.1) = false := by rfl) : VE X B g0 (.Call (.Name x p) (e :: es) [] pos) (wCB op W) :=
  VE.of (wCB_mono ho.mono ha.mono) (pe_callTy ho.callr hg hm hv ha.pa hn hdb he hpl) fun σ H env S g Q R q => cb_imp R q
end
end VC

set_option Elab.async false
set_option linter.all false
set_option maxRecDepth 100000
set_option maxHeartbeats 4000000
/-! VF: statements, loops, the defs' promises. -/
namespace VC
open PySem PySem.Spec PyProof.Rows L2

/-! ### targets -/
abbrev WG := D → VEnv → Sto → WEnd → Prop
section
variable {X : Cx} {B : Hp} {g0 : Gh}
/-- behind a target's store -/
def GQ (X : Cx) (B : Hp) (g0 : Gh) (g : Gh) (H : Hp) (Q : WEnd) : L2.St → Hp → Prop := fun σ' H' => ∃ g' env' S', Stp g H g' H' ∧ Rp X.mg X.wk B g0 g' H' σ' env' S' ∧ Q env' S'
theorem GQ.nq {X : Cx} {B : Hp} {g0 g g1 : Gh} {H H1 H' : Hp} {Q : WEnd} {σ' : L2.St} (z : Fz g H g1 H1) (q : GQ X B g0 g1 H1 Q σ' H') : NQ X B g0 g H Q σ' H' :=
  let ⟨g', env', S', z', R', q⟩ := q; ⟨g', env', S', z.trans z'.toFz, R', q⟩
/-- the same but for some slots -/
def But (is : List Nat) (σ σ' : L2.St) : Prop := σ'.length = σ.length ∧ ∀ j, j ∉ is → σ'[j]? = σ[j]?
/-- a value is stored that is held -/
structure VG (X : Cx) (B : Hp) (g0 : Gh) (is : List Nat) (target : Expr) (G : WG) : Prop where
  mono : ∀ d env S (Q Q' : WEnd), (∀ e s, Q e s → Q' e s) → G d env S Q → G d env S Q'
  pg : PG X target fun v σ H Q => ∃ d env S g Q0, Rp X.mg X.wk B g0 g H σ env S ∧ Rep X.mg X.wk g H d v ∧ G d env S Q0 ∧ ∀ σ' H', But is σ σ' → GQ X B g0 g H Q0 σ' H' → Q σ' H'
theorem Rp.put {mg : Str → Option Value} {w : WK} {g : Gh} {H : Hp} {σ : L2.St} {env : VEnv} {S : Sto} (R : Rp mg w B g0 g H σ env S) (i : Nat) {d : D} {v : V} (r : Rep mg w g H d v) : Rp mg w B g0 g H (σ.set i (some v)) (env.set i (some (.val d))) S := by
  have hl := R.len
  refine ⟨R.sto, by rw [List.length_set, List.length_set]; exact R.len, fun j d' q => ?_, fun j m q => ?_, fun j k m m' a q1 q2 h1 h2 => ?_, R.base, R.fN, R.noTup⟩
  · by_cases hj : i = j
    · subst hj
      have hi : i < env.length := by
        have := (List.getElem?_eq_some_iff.mp q).1
        rwa [List.length_set] at this
      rw [List.getElem?_set_self hi] at q; cases q
      exact ⟨v, List.getElem?_set_self (by omega), r⟩
    · rw [List.getElem?_set_ne hj] at q
      obtain ⟨u, h1, h2⟩ := R.val j d' q
      exact ⟨u, by rw [List.getElem?_set_ne hj]; exact h1, h2⟩
  · by_cases hj : i = j
    · subst hj
      have hi : i < env.length := by
        have := (List.getElem?_eq_some_iff.mp q).1
        rwa [List.length_set] at this
      rw [List.getElem?_set_self hi] at q; cases q
    · rw [List.getElem?_set_ne hj] at q
      obtain ⟨a, h1, h2⟩ := R.own j m q
      exact ⟨a, by rw [List.getElem?_set_ne hj]; exact h1, h2⟩
  · have key : ∀ (j : Nat) (m : M), (env.set i (some (T.val d)))[j]? = some (some (T.own m)) → i ≠ j ∧ env[j]? = some (some (T.own m)) := fun j m q => by
      by_cases hj : i = j
      · subst hj
        by_cases hi : i < env.length
        · rw [List.getElem?_set_self hi] at q; cases q
        · rw [List.getElem?_eq_none (by simpa using hi)] at q; cases q
      · rw [List.getElem?_set_ne hj] at q; exact ⟨hj, q⟩
    obtain ⟨n1, e1⟩ := key j m q1
    obtain ⟨n2, e2⟩ := key k m' q2
    rw [List.getElem?_set_ne n1] at h1
    rw [List.getElem?_set_ne n2] at h2
    exact R.inj j k m m' a e1 e2 h1 h2
/-- a fresh object is stored -/
theorem Rp.putOwn {mg : Str → Option Value} {w : WK} {g : Gh} {H : Hp} {σ : L2.St} {env : VEnv} {S : Sto} (R : Rp mg w B g0 g H σ env S) (i : Nat) {t : T} {v : V} (r : RT mg w B g H σ env t v) : Rp mg w B g0 g H (σ.set i (some v)) (env.set i (some t)) S := by
  cases t with
  | val d => exact R.put i r
  | own mm =>
    obtain ⟨a0, rfl, r1, r2, r3, r4, r5⟩ := r
    have hl := R.len
    have key : ∀ (j : Nat) (t : T), i ≠ j → (env.set i (some (T.own mm)))[j]? = some (some t) → env[j]? = some (some t) := fun j t hj q => by
      rw [List.getElem?_set_ne hj] at q; exact q
    have hlen : ∀ (j : Nat) (t : T), (env.set i (some (T.own mm)))[j]? = some (some t) → j < env.length := fun j t q => by
      have := (List.getElem?_eq_some_iff.mp q).1
      rwa [List.length_set] at this
    refine ⟨R.sto, by rw [List.length_set, List.length_set]; exact R.len, fun j d' q => ?_, fun j m q => ?_, fun j k m m' a q1 q2 h1 h2 => ?_, R.base, R.fN, R.noTup⟩
    · by_cases hj : i = j
      · subst hj
        rw [List.getElem?_set_self (hlen _ _ q)] at q; cases q
      · obtain ⟨u, h1, h2⟩ := R.val j d' (key j _ hj q)
        exact ⟨u, by rw [List.getElem?_set_ne hj]; exact h1, h2⟩
    · by_cases hj : i = j
      · subst hj
        have hi := hlen _ _ q
        rw [List.getElem?_set_self hi] at q; cases q
        exact ⟨a0, List.getElem?_set_self (by omega), r1, r2, r3, r4⟩
      · obtain ⟨a, h1, h2⟩ := R.own j m (key j _ hj q)
        exact ⟨a, by rw [List.getElem?_set_ne hj]; exact h1, h2⟩
    · by_cases hj : i = j
      · subst hj
        by_cases hk : i = k
        · exact hk
        · rw [List.getElem?_set_self (by have := hlen _ _ q1; omega)] at h1
          rw [List.getElem?_set_ne hk] at h2
          cases h1
          exact absurd h2 (r5 k m' (key k _ hk q2))
      · by_cases hk : i = k
        · subst hk
          rw [List.getElem?_set_self (by have := hlen _ _ q2; omega)] at h2
          rw [List.getElem?_set_ne hj] at h1
          cases h2
          exact absurd h1 (r5 j m (key j _ hj q1))
        · rw [List.getElem?_set_ne hj] at h1
          rw [List.getElem?_set_ne hk] at h2
          exact R.inj j k m m' a (key j _ hj q1) (key k _ hk q2) h1 h2
def gN (i : Nat) : WG := fun d env S Q => Q (env.set i (some (.val d))) S
theorem vg_name {i : Nat} {e : Expr} (h : PG X e (gName i)) : VG X B g0 [i] e (gN i) :=
  ⟨fun _ _ _ _ _ i q => i _ _ q, ⟨fun pins s σ H v u Q I r ⟨d, env, S, g, Q0, R, rp, q, k⟩ => h.run pins s σ H v u Q I r (k _ _ ⟨by rw [List.length_set], fun j hj => List.getElem?_set_ne (fun z => hj (by simp [z]))⟩ ⟨g, _, S, Stp.refl g H, R.put i rp, q⟩)⟩⟩
abbrev WGs := List D → VEnv → Sto → WEnd → Prop
structure VGs (X : Cx) (B : Hp) (g0 : Gh) (is : List Nat) (ts : List Expr) (G : WGs) : Prop where
  mono : ∀ d env S (Q Q' : WEnd), (∀ e s, Q e s → Q' e s) → G d env S Q → G d env S Q'
  pgs : PGs X ts fun vs σ H Q => ∃ ds env S g Q0, Rp X.mg X.wk B g0 g H σ env S ∧ RepAll X.mg X.wk g H ds vs ∧ G ds env S Q0 ∧ ∀ σ' H', But is σ σ' → GQ X B g0 g H Q0 σ' H' → Q σ' H'
def gNl : WGs
  | [], env, S, Q => Q env S
  | _ :: _, _, _, _ => False
def gCs (G : WG) (Gs : WGs) : WGs
  | [], _, _, _ => False
  | d :: ds, env, S, Q => G d env S fun env' S' => Gs ds env' S' Q
theorem vgs_nil : VGs X B g0 [] [] gNl := by
  refine ⟨fun d env S Q Q' i q => ?_, ⟨fun pins s σ H vs us Q I r ⟨ds, env, S, g, Q0, R, rp, q, k⟩ => ?_⟩⟩
  · cases d with
    | nil => exact i _ _ q
    | cons _ _ => exact q
  · cases rp with
    | nil => exact pgs_nil.run pins s σ H [] us Q I r ⟨rfl, k _ _ ⟨rfl, fun _ _ => rfl⟩ ⟨g, env, S, Stp.refl g H, R, q⟩⟩
    | cons _ _ => exact q.elim
theorem vgs_cons {e : Expr} {es : List Expr} {i1 i2 : List Nat} {G : WG} {Gs : WGs} (h1 : VG X B g0 i1 e G) (h2 : VGs X B g0 i2 es Gs) (hs : (assignEach (e :: es) X.env).map (·.2) = assign e X.env :: (assignEach es X.env).map (·.2) := by rfl) : VGs X B g0 (i1 ++ i2) (e :: es) (gCs G Gs) := by
  refine ⟨fun d env S Q Q' i q => ?_, ⟨fun pins s σ H vs us Q I r ⟨ds, env, S, g, Q0, R, rp, q, k⟩ => ?_⟩⟩
  · cases d with
    | nil => exact q
    | cons _ _ => exact h1.mono _ _ _ _ _ (fun _ _ q => h2.mono _ _ _ _ _ i q) q
  · cases rp with
    | nil => exact q.elim
    | @cons d v ds vs r1 r2 =>
      refine (pgs_cons h1.pg h2.pgs hs).run pins s σ H _ us Q I r ⟨v, vs, rfl, d, env, S, g, _, R, r1, q, fun σ1 H1 b1 ⟨g1, env1, S1, z1, R1, q1⟩ => ?_⟩
      exact ⟨ds, env1, S1, g1, Q0, R1, r2.mono z1.toFz, q1, fun σ2 H2 b2 ⟨g2, env2, S2, z2, R2, q2⟩ => k _ _ ⟨b2.1.trans b1.1, fun j hj => (b2.2 j fun z => hj (List.mem_append_right _ z)).trans (b1.2 j fun z => hj (List.mem_append_left _ z))⟩ ⟨g2, env2, S2, z1.trans z2, R2, q2⟩⟩
/-- a tuple's items to several targets -/
def gT (Gs : WGs) : WG
  | .tup ds, env, S, Q => Gs ds env S Q
  | _, _, _, _ => False
theorem vg_tup {es : List Expr} {k : Nat} {pos : Pos} {is : List Nat} {Gs : WGs} {n : Nat} (hc : X.calm = true) (h : VGs X B g0 is es Gs) (hd : ∀ ds env S Q, Gs ds env S Q → ds.length = n)
    (hn : (assignEach es X.env).length = n := by rfl) (hst : (assignEach es X.env).findIdx? (·.1) = none := by rfl) : VG X B g0 is (.Tuple es k pos) (gT Gs) := by
  refine ⟨fun d env S Q Q' i q => ?_, ⟨fun pins s σ H v u Q I r ⟨d, env, S, g, Q0, R, rp, q, k⟩ => ?_⟩⟩
  · unfold gT at q ⊢
    split at q <;> first | exact h.mono _ _ _ _ _ i q | exact q
  · unfold gT at q
    split at q
    · cases rp with
      | @tup a vs ds h1 h2 => exact (pg_tup hc h.pgs hn hst).run pins s σ H _ u Q I r ⟨a, vs, rfl, SqT.at h1, by rw [← h2.length]; exact hd _ _ _ _ q, _, env, S, g, Q0, R, h2, q, k⟩
    · exact q.elim
/-! ### statements -/
variable {e a b c : Expr} {st : Stmt} {rest body orelse : List Stmt} {pos : Pos} {W W1 W2 : WS} {We : WE}
def wNil : WS := fun D env S => D.nx env S
def wSeq (W1 W2 : WS) : WS := fun D env S => W1 { D with nx := fun e s => W2 D e s } env S
theorem MoS.seq (h1 : MoS W1) (h2 : MoS W2) : MoS (wSeq W1 W2) := fun env S D D' i q => h1 env S { D with nx := fun e s => W2 D e s } { D' with nx := fun e s => W2 D' e s } ⟨fun e s q => h2 e s D D' i q, i.rt, i.bk, i.ct⟩ q
theorem NQ.fz {g g1 : Gh} {H H1 H' : Hp} {Q : WEnd} {σ' : L2.St} (z : Fz g H g1 H1) (q : NQ X B g0 g1 H1 Q σ' H') : NQ X B g0 g H Q σ' H' :=
  let ⟨g', env', S', z', R', q⟩ := q; ⟨g', env', S', z.trans z', R', q⟩
theorem vss_nil : VSs X B g0 [] wNil := VSs.of (fun _ _ _ _ i q => i.nx _ _ q) pss_nil fun σ H env S g De R q => ⟨g, env, S, Fz.refl g H, R, q⟩
theorem vss_cons (h1 : VS X B g0 st W1) (h2 : VSs X B g0 rest W2) : VSs X B g0 (st :: rest) (wSeq W1 W2) := by
  refine VSs.of (h1.mono.seq h2.mono) (pss_cons h1.ps h2.ps) fun σ H env S g De R q => ?_
  refine ⟨env, S, g, _, R, q, ⟨fun σ' H' ⟨g1, env1, S1, z1, R1, q1⟩ => ?_, fun _ _ q => q, fun _ _ q => q, fun _ _ q => q⟩⟩
  exact ⟨env1, S1, g1, De, R1, q1, ⟨fun _ _ q => NQ.fz z1 q, fun _ _ q => q, fun _ _ q => NQ.fz z1 q, fun _ _ q => NQ.fz z1 q⟩⟩
theorem vss_one (h1 : VS X B g0 st W1) : VSs X B g0 [st] W1 := ⟨h1.mono, pss_one h1.ps⟩
def wBrk : WS := fun D env S => D.bk env S
def wCnt : WS := fun D env S => D.ct env S
def wNev : WS := fun _ _ _ => False
theorem vs_never : VS X B g0 st wNev := VS.of (fun _ _ _ _ _ q => q) ps_never fun _ _ _ _ _ _ _ q => q
def wRet (We : WE) : WS := fun D env S => We env S fun t _ S' => D.rt t S'
theorem vs_ret (h : VE X B g0 e We) : VS X B g0 (.Return (some e) pos) (wRet We) :=
  VS.of (fun _ _ _ _ i q => h.mono _ _ _ _ (fun _ _ _ => i.rt _ _) q) (ps_ret h.pe) fun σ H env S g De R q => ⟨env, S, g, _, R, q, fun v H' ⟨g', t, env', S', st, R', rt, q⟩ => ⟨g', t, σ, env', S', R', rt, q⟩⟩
def wRetN : WS := fun D _ S => D.rt (.val .non) S
def wDrop (We : WE) : WS := fun D env S => We env S fun _ env' S' => D.nx env' S'
theorem vs_expr (h : VE X B g0 e We) (hs : swapsWith e none pos.line X.env = pure false := by rfl) : VS X B g0 (.Expr e pos) (wDrop We) :=
  VS.of (fun _ _ _ _ i q => h.mono _ _ _ _ (fun _ _ _ => i.nx _ _) q) (ps_expr h.pe hs) fun σ H env S g De R q => ⟨env, S, g, _, R, q, fun v H' ⟨g', t, env', S', st, R', rt, q⟩ => ⟨g', env', S', st.toFz, R', q⟩⟩
/-- x = e -/
def wSet (i : Nat) (We : WE) : WS := fun D env S => We env S fun t env' S' => D.nx (env'.set i (some t)) S'
theorem vs_set {i : Nat} {x : Str} {pos' : Pos} (h : VE X B g0 e We) (hp : ∀ te, PE X e te → PS X (.Assign [.Name x pos'] e pos) (tAsg te (gName i))) : VS X B g0 (.Assign [.Name x pos'] e pos) (wSet i We) :=
  VS.of (fun _ _ _ _ k q => h.mono _ _ _ _ (fun _ _ _ => k.nx _ _) q) (hp _ h.pe) fun σ H env S g De R q => ⟨env, S, g, _, R, q, fun v H' ⟨g', t, env', S', st, R', rt, q⟩ => ⟨g', _, S', st.toFz, R'.putOwn i rt, q⟩⟩
/-- target = e: the value is held -/
def wAsg (We : WE) (G : WG) : WS := fun D env S => We env S fun t env' S' => G t.d env' S' D.nx
theorem vs_asg {tg : Expr} {is : List Nat} {G : WG} (h : VE X B g0 e We) (hg : VG X B g0 is tg G) (hs : swapsWithSole [tg] e pos.line X.env = pure false := by rfl) (hw : swappedStores [tg] e X.env = pure none := by rfl)
    (h1 : (assignEach [tg] X.env).map (·.2) = [assign tg X.env] := by rfl) : VS X B g0 (.Assign [tg] e pos) (wAsg We G) := by
  refine VS.of (fun _ _ _ _ k q => h.mono _ _ _ _ (fun _ _ _ q => hg.mono _ _ _ _ _ k.nx q) q) (ps_asg h.pe hg.pg hs hw h1) fun σ H env S g De R q => ?_
  refine ⟨env, S, g, _, R, q, fun v H' ⟨g1, t, env1, S1, st1, R1, rt, q1⟩ => ?_⟩
  obtain ⟨g2, st2, R2, rp⟩ := rt.hold R1
  exact ⟨t.d, env1, S1, g2, _, R2, rp, q1, fun _ _ _ q => GQ.nq (st1.trans st2).toFz q⟩
def wIfS (Wt : WT) (W1 W2 : WS) : WS := fun D env S => Wt env S fun c env' S' => Ite c (W1 D env' S') (W2 D env' S')
theorem SQ.fz {g g1 : Gh} {H H1 : Hp} {De : WEnds} (z : Fz g H g1 H1) : SQ X B g0 g1 H1 De (ends X B g0 g H De) := ⟨fun _ _ q => NQ.fz z q, fun _ _ q => q, fun _ _ q => NQ.fz z q, fun _ _ q => NQ.fz z q⟩
theorem vs_if {Wt : WT} (hc : VT X B g0 c Wt) (ha : VSs X B g0 body W1) (hb : VSs X B g0 orelse W2) : VS X B g0 (.If c body orelse pos) (wIfS Wt W1 W2) := by
  refine VS.of (fun _ _ _ _ k q => hc.mono _ _ _ _ (fun c _ _ q => ?_) q) (ps_if hc.pt ha.ps hb.ps) fun σ H env S g De R q => ?_
  · exact q.mono (ha.mono _ _ _ _ k) (hb.mono _ _ _ _ k)
  · refine ⟨env, S, g, _, R, q, fun k H' ⟨g1, env1, S1, st, R1, q1⟩ => ?_⟩
    cases k with
    | true => exact ⟨env1, S1, g1, De, R1, q1.t, SQ.fz st.toFz⟩
    | false => exact ⟨env1, S1, g1, De, R1, q1.f, SQ.fz st.toFz⟩
/-- .. the ways out behind a raise are none -/
theorem VSs.nox {st : List Stmt} (h : VSs X.nox B g0 st W) : VSs X B g0 st W :=
  ⟨h.mono, ⟨fun pins s σ H D I ⟨env, S, g, De, R, q, i⟩ => h.ps.nox.run pins s σ H D I ⟨env, S, g, De, R, q, ⟨i.nx, i.rt, i.bk, i.ct⟩⟩⟩⟩
/-- a, b = e1, e2: plain local names, stored from the right -/
def wPar (i j : Nat) (W : WA) : WS := fun D env S => W env S fun ds env' S' => match ds with
  | [d, f] => D.nx ((env'.set i (some (.val d))).set j (some (.val f))) S'
  | _ => False
def wPar3 (i j l : Nat) (W : WA) : WS := fun D env S => W env S fun ds env' S' => match ds with
  | [d, f, h] => D.nx (((env'.set i (some (.val d))).set j (some (.val f))).set l (some (.val h))) S'
  | _ => False
/-! ### while -/
def wWhile (Wt : WT) (W : WS) : WS := fun D env S => ∃ P : Nat → VEnv → Sto → Prop, (∃ m, P m env S) ∧ ∀ m env S, P m env S →
  Wt env S fun c env1 S1 => Ite c (W { D with nx := fun e s => ∃ m', m' < m ∧ P m' e s, ct := fun e s => ∃ m', m' < m ∧ P m' e s, bk := D.nx } env1 S1) (D.nx env1 S1)
end

/-! ### what is walked -/
/-- J yields the items, each held, whatever the loop does meanwhile -/
def JOk (mg : Str → Option Value) (w : WK) (g : Gh) (H : Hp) (J : It) (items : List D) : Prop := ∀ g' H', Fz g H g' H' → (∀ a, g'.F a → ∃ o, H' a = some o) → ∀ i : Nat,
  (∀ d, items[i]? = some d → J.go i H' ∧ ∀ x H2, J.yld i H' x H2 → New H' H2 ∧ Rep mg w g' H2 d x) ∧ (i = items.length → J.stop i H')
def tI (X : Cx) (B : Hp) (g0 : Gh) (W : WA) : TI := fun σ H R => ∃ env S g Q0, Rp X.mg X.wk B g0 g H σ env S ∧ W env S Q0 ∧ ∀ J H' g' items env' S', Stp g H g' H' → Rp X.mg X.wk B g0 g' H' σ env' S' → JOk X.mg X.wk g' H' J items → Q0 items env' S' → R J H'
structure VI (X : Cx) (B : Hp) (g0 : Gh) (tg iter : Expr) (W : WA) : Prop where
  mono : Mo W
  pi : PI X tg iter (tI X B g0 W)
theorem VI.of {X : Cx} {B : Hp} {g0 : Gh} {tg iter : Expr} {W : WA} {wi : TI} (m : Mo W) (h : PI X tg iter wi)
    (imp : ∀ σ H env S g Q, Rp X.mg X.wk B g0 g H σ env S → W env S Q → wi σ H fun J H' => ∃ g' items env' S', Stp g H g' H' ∧ Rp X.mg X.wk B g0 g' H' σ env' S' ∧ JOk X.mg X.wk g' H' J items ∧ Q items env' S') : VI X B g0 tg iter W := by
  refine ⟨m, ⟨fun pins s σ H R I ⟨env, S, g, Q0, Rr, q, k⟩ => thn (h.run pins s σ H _ I (imp σ H env S g Q0 Rr q)) fun v s1 h1 => thn h1 fun u s2 z => ?_⟩⟩
  obtain ⟨it, fp, tn, J, H', e, I', T, h0, hf, g', items, env', S', st, R', jok, q⟩ := z
  exact ⟨it, fp, tn, J, H', e, I', T, h0, hf, k J H' g' items env' S' st R' jok q⟩
section
variable {X : Cx} {B : Hp} {g0 : Gh} {tg e a b : Expr} {pos : Pos}
/-- the items of a list or tuple -/
def dItems : D → (List D → Prop) → Prop
  | .tup ds, K => K ds
  | .lst ds, K => K ds
  | _, _ => False
theorem jok_tup {g : Gh} {H : Hp} {a : Addr} {vs : List V} {ds : List D} {K : PySem.W.Frag} {mg : Str → Option Value} {w : WK} (h : H a = some (.tup vs)) (r : RepAll mg w g H ds vs) : JOk mg w g H (Itt K a) ds := by
  intro g' H' z tr i
  have h' := z.tup a vs h
  have r' := r.mono z
  refine ⟨fun d hd => ?_, fun hl => ⟨vs, SqT.at h', by rw [← r.length]; omega⟩⟩
  obtain ⟨v, hv, rv⟩ := r'.get hd
  refine ⟨⟨vs, v, SqT.at h', hv⟩, fun x H2 ⟨e, y⟩ => ?_⟩
  subst e
  have := y vs (SqT.at h')
  rw [hv] at this; cases this
  exact ⟨New.refl _, rv⟩
theorem jok_lst {g : Gh} {H : Hp} {a : Addr} {vs : List V} {ds : List D} {K : PySem.W.Frag} {mg : Str → Option Value} {w : WK} (hF : g.F a) (h : Rd H a (.lst vs)) (r : RepAll mg w g H ds vs) : JOk mg w g H (Itl K a) ds := by
  intro g' H' z tr i
  have h' := z.rd hF h
  have r' := r.mono z
  have hs : SqL K H' a vs := .inl h'
  refine ⟨fun d hd => ?_, fun hl => ⟨vs, hs, by rw [← r.length]; omega⟩⟩
  obtain ⟨v, hv, rv⟩ := r'.get hd
  refine ⟨⟨vs, v, hs, hv⟩, fun x H2 ⟨e, y⟩ => ?_⟩
  subst e
  have := y vs hs
  rw [hv] at this; cases this
  exact ⟨New.refl _, rv⟩
/-- walked: a tuple -/
def iT (W : WE) : WA := fun env S Q => W env S fun t env' S' => match t with
  | .val (.tup ds) => Q ds env' S'
  | _ => False
/-- walked: a list, held from then on -/
def iL (W : WE) : WA := fun env S Q => W env S fun t env' S' => match t.d with
  | .lst ds => Q ds env' S'
  | _ => False
/-- walked: range(n), range(a, b) -/
@[irreducible] def rngD (lo : Int) (n : Nat) : List D := (List.range n).map fun (i : Nat) => .int (lo + (i : Int))
theorem jok_rng {g : Gh} {H : Hp} {lo : Int} {n : Nat} {mg : Str → Option Value} {w : WK} : JOk mg w g H (Itr lo n) (rngD lo n) := by
  intro g' H' z tr i
  refine ⟨fun d hd => ?_, fun hl => by show n ≤ i; rw [hl]; simp [rngD]⟩
  have hi : i < n := by
    have := (List.getElem?_eq_some_iff.mp hd).1
    simpa [rngD] using this
  refine ⟨hi, fun x H2 ⟨e, y⟩ => ?_⟩
  subst e; subst y
  have : d = .int (lo + (i : Int)) := by
    unfold rngD at hd
    rw [List.getElem?_map, List.getElem?_range hi] at hd
    simpa using hd.symm
  subst this
  exact ⟨New.refl _, .int _⟩
def iR1 (W : WA) : WA := fun env S Q => W env S fun ds env' S' => match ds with
  | [.int j] => (-(2 ^ 62) ≤ j ∧ j < 2 ^ 62) ∧ Q (rngD 0 j.toNat) env' S'
  | _ => False
def iR2 (W : WA) : WA := fun env S Q => W env S fun ds env' S' => match ds with
  | [.int i, .int j] => (-(2 ^ 62) ≤ i ∧ i < 2 ^ 62 ∧ -(2 ^ 62) ≤ j ∧ j < 2 ^ 62) ∧ Q (rngD i (j - i).toNat) env' S'
  | _ => False
theorem vi_range1 {W : WA} {p : Pos} (hg : Gl X "range") (hm : X.mg "range" = none) (h : VA X B g0 [a] W) (hs : starEach [a] X.env = [(false, eval a X.env)] := by rfl) : VI X B g0 tg (.Call (.Name "range" p) [a] [] pos) (iR1 W) := by
  refine VI.of (fun _ _ _ _ i q => h.mono _ _ _ _ (fun ds _ _ q => ?_) q) (pi_range1 hg hm h.pa hs) fun σ H env S g Q R q => ?_
  · split at q
    · exact if_mono (i _ _ _) q
    · exact q.elim
  · refine ⟨env, S, g, _, R, q, fun vs H1 ⟨g1, ds, env1, S1, st1, R1, ra, q1⟩ => ?_⟩
    dsimp only at q1
    split at q1
    · obtain ⟨⟨h1, h2⟩, q1⟩ := if_false q1
      cases ra with
      | cons r ra =>
        cases ra; cases r
        exact ⟨_, rfl, h1, h2, g1, _, env1, S1, st1, R1, jok_rng, q1⟩
    · exact q1.elim
theorem vi_range2 {W : WA} {p : Pos} (hg : Gl X "range") (hm : X.mg "range" = none) (h : VA X B g0 [a, b] W) (hs : starEach [a, b] X.env = [(false, eval a X.env), (false, eval b X.env)] := by rfl) (hs2 : starEach [b] X.env = [(false, eval b X.env)] := by rfl) : VI X B g0 tg (.Call (.Name "range" p) [a, b] [] pos) (iR2 W) := by
  refine VI.of (fun _ _ _ _ i q => h.mono _ _ _ _ (fun ds _ _ q => ?_) q) (pi_range2 hg hm h.pa hs hs2) fun σ H env S g Q R q => ?_
  · split at q
    · exact if_mono (i _ _ _) q
    · exact q.elim
  · refine ⟨env, S, g, _, R, q, fun vs H1 ⟨g1, ds, env1, S1, st1, R1, ra, q1⟩ => ?_⟩
    dsimp only at q1
    split at q1
    · obtain ⟨hh, q1⟩ := if_false q1
      cases ra with
      | cons r ra =>
        cases ra with
        | cons r' ra =>
          cases ra; cases r; cases r'
          exact ⟨_, _, rfl, hh, g1, _, env1, S1, st1, R1, jok_rng, q1⟩
    · exact q1.elim

/-! ### for -/
def forW (G : WG) (W : WS) (D : WEnds) : List VC.D → WEnd
  | [] => D.nx
  | d :: ds => fun env S => G d env S fun env' S' => W { D with nx := forW G W D ds, ct := forW G W D ds, bk := D.nx } env' S'
def wFor (Wi : WA) (G : WG) (W : WS) : WS := fun D env S => Wi env S fun items env' S' => forW G W D items env' S'
theorem forW_mono {G : WG} {W : WS} {D D' : WEnds} (mg : ∀ d env S (Q Q' : WEnd), (∀ e s, Q e s → Q' e s) → G d env S Q → G d env S Q') (mw : MoS W) (k : WEnds.Le D D') : ∀ items env S, forW G W D items env S → forW G W D' items env S
  | [], _, _, q => k.nx _ _ q
  | d :: ds, _, _, q => mg _ _ _ _ _ (fun _ _ q => by
    refine mw _ _ _ _ ?_ q
    exact ⟨forW_mono mg mw k ds, k.rt, k.nx, forW_mono mg mw k ds⟩) q
theorem vs_for {iter : Expr} {body : List Stmt} {is : List Nat} {Wi : WA} {G : WG} {W : WS} (hp : PassesOwn (model X.prog X.w) X.A X.env X.xe) (hc : X.calm = true) (hi : VI X B g0 tg iter Wi) (hg : VG X B g0 is tg G) (hb : VSs X B g0 body W)
    (hs : ∀ x, foldedSetIterable iter X.env x = pure x := by intro _; rfl) : VS X B g0 (.For tg iter body [] pos) (wFor Wi G W) := by
  refine VS.of (fun _ _ _ _ k q => hi.mono _ _ _ _ (fun _ _ _ q => forW_mono hg.mono hb.mono k _ _ _ q) q) (ps_for hp hc hi.pi hg.pg hb.ps hs) fun σ H env S g De R q => ?_
  refine ⟨env, S, g, _, R, q, fun J H1 g1 items env1 S1 st1 R1 jok q1 => ?_⟩
  refine ⟨fun i m σ' H' => m = items.length - i ∧ i ≤ items.length ∧ ∃ g' env' S', Fz g1 H1 g' H' ∧ Rp X.mg X.wk B g0 g' H' σ' env' S' ∧ forW G W De (items.drop i) env' S', ⟨items.length, by simp, Nat.zero_le _, g1, env1, S1, Fz.refl _ _, R1, by simpa using q1⟩, ?_⟩
  rintro i m σ2 H2 ⟨rfl, hi, g2, env2, S2, z2, R2, q2⟩
  by_cases hlt : i < items.length
  · obtain ⟨hgo, hy⟩ := (jok g2 H2 z2 R2.sto.tr i).1 _ (List.getElem?_eq_getElem hlt)
    refine .inr ⟨hgo, fun σ' H' => i + 1 ≤ items.length ∧ ∃ g' env' S', Fz g1 H1 g' H' ∧ Rp X.mg X.wk B g0 g' H' σ' env' S' ∧ forW G W De (items.drop (i + 1)) env' S', fun σ' H' q => ⟨items.length - (i + 1), by omega, rfl, q⟩, fun x H3 hyx => ?_⟩
    obtain ⟨hn, rx⟩ := hy x H3 hyx
    rw [List.drop_eq_getElem_cons hlt] at q2
    have z3 : Fz g2 H2 g2 H3 := Fz.new hn R2.sto.tr
    refine ⟨items[i], env2, S2, g2, _, R2.new hn, rx, q2, fun σ4 H4 _ ⟨g4, env4, S4, z4, R4, q4⟩ => ?_⟩
    have z14 := (z2.trans z3).trans z4.toFz
    refine ⟨env4, S4, g4, _, R4, q4, ⟨fun σ5 H5 ⟨g5, env5, S5, z5, R5, q5⟩ => ⟨hlt, g5, env5, S5, z14.trans z5, R5, q5⟩, fun _ _ q => q, fun σ5 H5 q => NQ.fz (st1.toFz.trans z14) q, fun σ5 H5 ⟨g5, env5, S5, z5, R5, q5⟩ => ⟨hlt, g5, env5, S5, z14.trans z5, R5, q5⟩⟩⟩
  · refine .inl ⟨(jok g2 H2 z2 R2.sto.tr i).2 (by omega), ?_⟩
    rw [List.drop_eq_nil_of_le (by omega)] at q2
    exact ⟨g2, env2, S2, st1.toFz.trans z2, R2, q2⟩
end

/-! ### a def's promise -/
theorem passN {X : Cx} : Passes (L2N.CX X.prog X.w) X E0 := fun _ _ _ _ _ _ _ h => by
  obtain ⟨_, _, _, _, _, _, _, _, _, _, _, _, z⟩ := h
  exact z.elim
structure XD where
  cls : Str
  fs : List (Str × D)
/-- the arguments, the store; what is wanted of the answer, of an exception -/
abbrev FSpec := List D → Sto → (T → Sto → Prop) → (XD → Sto → Prop) → Prop
def RF (mg : Str → Option Value) (w : WK) (H : Hp) (g' : Gh) (H' : Hp) : T → V → Prop
  | .val d, z => Rep mg w g' H' d z
  | .own m, z => ∃ a, z = .ref a ∧ RepM mg w g' H' m a ∧ H a = none ∧ ¬ g'.F a ∧ a ∉ g'.ρ
def SpOf (mg : Str → Option Value) (w : WK) (n : Nat) (sp : FSpec) : Sp := fun vs H Q _ => vs.length = n ∧ ∃ g S ds R, StoOk mg w g H S ∧ RepAll mg w g H ds vs ∧ sp ds S R (fun _ _ => False) ∧
  ∀ v H' g' t S', Stp g H g' H' → StoOk mg w g' H' S' → (∀ a, g'.F a → g.F a ∨ H a = none) → RF mg w H g' H' t v → R t S' → Q v H'
section
variable {X : Cx} {B : Hp} {g0 : Gh} {e : Expr} {es : List Expr} {pos : Pos}
/-- behind a call -/
theorem Rp.called {mg : Str → Option Value} {w : WK} {g g' : Gh} {H H' : Hp} {σ : L2.St} {env : VEnv} {S S' : Sto} (R : Rp mg w B g0 g H σ env S) (st : Stp g H g' H') (so : StoOk mg w g' H' S') (hf : ∀ a, g'.F a → g.F a ∨ H a = none) : Rp mg w B g0 g' H' σ env S' := by
  refine ⟨so, R.len, fun i d q => ?_, fun i m q => ?_, R.inj, R.base.trans st, fun a q => ?_, fun a q vs => ?_⟩
  · obtain ⟨v, h1, h2⟩ := R.val i d q
    exact ⟨v, h1, h2.mono st.toFz⟩
  · obtain ⟨a, h1, h2, h3, h4, h5⟩ := R.own i m q
    obtain ⟨o, ho, _⟩ := h2.there
    refine ⟨a, h1, h2.mono st.toFz ((st.oth a o ho h5).trans ho.symm), h3, fun z => ?_, fun z => ?_⟩
    · rcases hf a z with z | z
      · exact h4 z
      · rw [ho] at z; cases z
    · rcases st.rN a z with z | z
      · exact h5 z
      · rw [ho] at z; cases z
  · rcases hf a q with z | z
    · exact R.fN a z
    · exact .inr (R.bn z)
  · rcases st.rN a q with z | z
    · exact R.noTup a z vs
    · rw [R.bn z]; exact fun q => nomatch q
theorem Rp.rf {mg : Str → Option Value} {w : WK} {g g' : Gh} {H H' : Hp} {σ : L2.St} {env : VEnv} {S : Sto} {t : T} {v : V} (R : Rp mg w B g0 g H σ env S) (r : RF mg w H g' H' t v) : RT mg w B g' H' σ env t v := by
  cases t with
  | val d => exact r
  | own m =>
    obtain ⟨a, h1, h2, h3, h4, h5⟩ := r
    refine ⟨a, h1, h2, R.bn h3, h4, h5, fun i m' e q => ?_⟩
    obtain ⟨b, q1, q2, _⟩ := R.own i m' e
    rw [q] at q1; cases q1
    obtain ⟨o, q3, _⟩ := q2.there
    rw [h3] at q3; cases q3
def wCall (n : Nat) (sp : FSpec) (W : WA) : WE := fun env S Q => W env S fun ds env1 S1 => ds.length = n ∧ sp ds S1 (fun t S2 => Q t env1 S2) (fun _ _ => False)
def MoF (sp : FSpec) : Prop := ∀ ds S (R R' : T → Sto → Prop) E, (∀ t s, R t s → R' t s) → sp ds S R E → sp ds S R' E
theorem call_imp {n : Nat} {sp sp0 : FSpec} {dds : List D} {dvs : List V} (rd : ∀ g H, RepAll X.mg X.wk g H dds dvs) (is : ∀ ds S R E, sp ds S R E → sp0 (ds ++ dds) S R E) {W : WA} {E : XK} {σ : L2.St} {H : Hp} {env : VEnv} {S : Sto} {g : Gh} {Q : T → VEnv → Sto → Prop} (R : Rp X.mg X.wk B g0 g H σ env S) (q : wCall n sp W env S Q) : tCall (SpOf X.mg X.wk (n + dds.length) sp0) dvs E (tA X B g0 W) σ H (VQ X B g0 g H σ Q) := by
  refine ⟨env, S, g, _, R, q, fun vs H1 ⟨g1, ds, env1, S1, st1, R1, ra, q1⟩ => ?_⟩
  obtain ⟨hl, q1⟩ := if_false q1
  refine ⟨by rw [List.length_append, ← ra.length, ← (rd g1 H1).length, hl], g1, S1, ds ++ dds, _, R1.sto, ra.append (rd g1 H1), is _ _ _ _ q1, fun v H2 g2 t S2 st2 so hf rf q2 => ?_⟩
  exact ⟨g2, t, env1, S2, st1.trans st2, R1.called st2 so hf, R1.rf rf, q2⟩
/-- the facts of a def that is called: its promise, its name -/
structure FnV (P : Program) (w : World) (K : PySem.W.Frag) (mg : Str → Option Value) (base : Heap) (x : Str) (n k : Nat) (sp : FSpec) : Prop where
  mono : MoF sp
  ex : ∃ (f : Addr) (fd : FuncData) (ps : List Str) (dds : List D) (dvs : List V) (us : List Value) (sp0 : FSpec), FnOk P w K mg base (L2N.CX P w) k f fd ps (SpOf mg (w, K) (n + dds.length) sp0) ∧ mg x = some (.ref f) ∧ PySem.W.keepIn K (.ref f) = true ∧ Binds K fd ps us ∧ Vals dvs us ∧ (∀ g H, RepAll mg (w, K) g H dds dvs) ∧ ∀ ds S R E, sp ds S R E → sp0 (ds ++ dds) S R E
theorem wCall_mono {n : Nat} {sp : FSpec} {W : WA} (mf : MoF sp) (m : Mo W) : Mo (wCall n sp W) := fun _ _ _ _ i q => m _ _ _ _ (fun _ _ _ q => if_mono (mf _ _ _ _ _ fun _ _ => i _ _ _) q) q
theorem ve_call {x : Str} {n k : Nat} {sp : FSpec} {W : WA} {p : Pos} (F : FnV X.prog X.w X.K X.mg X.base x n k sp) (hr : Room k X.A) (hg : Gl X x) (ha : VA X B g0 (e :: es) W) (hdb : (x == ("__debug__" : Str)) = false := by decide)
    (he : starEach (e :: es) X.env = (false, eval e X.env) :: starEach es X.env := by rfl) (hpl : (backTo pos (starEach es X.env)).any (·.1) = false := by rfl) : VE X B g0 (.Call (.Name x p) (e :: es) [] pos) (wCall n sp W) := by
  obtain ⟨f, fd, ps, dds, dvs, us, sp0, G, hm, hk, hb, hd, rd, is⟩ := F.ex
  exact VE.of (wCall_mono F.mono ha.mono) (pe_call G hr hg hm hk hb hd passN ha.pa hdb he hpl) fun σ H env S g Q R q => call_imp rd is R q
end
theorem FnV.of {P : Program} {w : World} {K : PySem.W.Frag} {mg : Str → Option Value} {base : Heap} {x : Str} {n k : Nat} {sp : FSpec} {f : Addr} {fd : FuncData} {ps : List Str} (m : MoF sp) (G : FnOk P w K mg base (L2N.CX P w) k f fd ps (SpOf mg (w, K) n sp)) (hm : mg x = some (.ref f)) (hk : PySem.W.keepIn K (.ref f) = true) (hb : Binds K fd ps []) : FnV P w K mg base x n k sp :=
  ⟨m, f, fd, ps, [], [], [], sp, G, hm, hk, hb, .nil, fun _ _ => .nil, fun ds S R E q => by rw [List.append_nil]; exact q⟩
/-- the slots at a def's entry -/
def env0 (n : Nat) (ds : List D) : VEnv := ds.map (fun d => some (.val d)) ++ List.replicate (n - ds.length) none
section
variable {P : Program} {w : World} {K : PySem.W.Frag} {mg : Str → Option Value} {base : Heap}
theorem rp_start {g : Gh} {H : Hp} {S : Sto} {ds : List D} {vs : List V} {N : List Str} (so : StoOk mg (w, K) g H S) (r : RepAll mg (w, K) g H ds vs) : Rp mg (w, K) H g g H (L2.start N vs) (env0 N.length ds) S := by
  have hl := r.length
  have no : ∀ (i : Nat) (t : T), (env0 N.length ds)[i]? = some (some t) → ∃ d, ds[i]? = some d ∧ t = .val d := fun i t e => by
    unfold env0 at e
    by_cases hi : i < ds.length
    · rw [List.getElem?_append_left (by simpa using hi), List.getElem?_map, List.getElem?_eq_getElem hi] at e
      simp at e
      exact ⟨_, List.getElem?_eq_getElem hi, e.symm⟩
    · rw [List.getElem?_append_right (by simpa using hi)] at e
      rw [List.getElem?_replicate] at e
      split at e <;> cases e
  refine ⟨so, ?_, fun i d e => ?_, fun i m e => ?_, fun i j m m' a e => ?_, Stp.refl g H, fun a h => .inl h, fun a ha vs e => ?_⟩
  · unfold env0 L2.start
    rw [List.length_append, List.length_append, List.length_map, List.length_map, List.length_replicate, List.length_replicate, hl]
  · obtain ⟨d', h1, h2⟩ := no i _ e
    cases h2
    obtain ⟨v, h3, h4⟩ := r.get h1
    refine ⟨v, ?_, h4⟩
    unfold L2.start
    rw [List.getElem?_append_left (by simpa using (List.getElem?_eq_some_iff.mp h3).1), List.getElem?_map, h3]
    rfl
  · obtain ⟨d', _, h2⟩ := no i _ e; cases h2
  · obtain ⟨d', _, h2⟩ := no i _ e; cases h2
  · obtain ⟨o, h1, h2⟩ := so.there ha
    rw [h1] at e
    exact h2 vs (Option.some.inj e)
/-- a body's context -/
abbrev cxX (P : Program) (w : World) (K : PySem.W.Frag) (mg : Str → Option Value) (base : Heap) (N : List Str) (qual : Str) (sc : Scope) (f : Addr) (cdv : Value) (A : Around) (outer : List Env) (s : Shared) (H : Hp) (E : XK) : Cx := (cxOf (L2N.CX P w) P w K mg base N qual sc f cdv A outer s H E).nox
/-- THE RULE for a def that raises nothing of its own -/
theorem fn_ok {x qual : Str} {st : Stmt} {dvs : List V} {kws : List (Str × V)} {f : Addr} {fd : FuncData} {N ps : List Str} {k n : Nat} {sp : FSpec} {W : WS} (F : FunD K x qual (defArgs st) (defBody st) (defScope st) dvs kws f fd) (Sc : FnScope N ps (defScope st)) (hn : n = ps.length)
    (hb : ∀ (cdv : Value) (A : Around) (outer : List Env) (s : Shared) (H : Hp) (E : XK) (B : Hp) (g0 : Gh), Room k (A.deeper (envOfC qual (defScope st) s.heap.objs.size f cdv)) → VSs (cxX P w K mg base N qual (defScope st) f cdv A outer s H E) B g0 (defBody st) W)
    (hv : ∀ ds S R, sp ds S R (fun _ _ => False) → W { nx := fun _ s => R (.val .non) s, rt := R } (env0 N.length ds) S) : FnOk P w K mg base (L2N.CX P w) (k + 1) f fd ps (SpOf mg (w, K) n sp) := by
  refine F.ok Sc (fun vs H Q E h => h.1.trans hn) fun cdv A outer s H vs Q E hr ⟨hl, g, S, ds, R, so, ra, hsp, fin⟩ => ?_
  have hb' := hb cdv A outer s H E H g hr
  refine ⟨_, hb'.ps.nox, env0 N.length ds, S, g, _, rp_start so ra, hv ds S R hsp, ?_⟩
  refine ⟨fun σ' H' ⟨g', env', S', z, R', q⟩ => ?_, fun v H' ⟨g', t, σ', env', S', R', rt, q⟩ => ?_, fun _ _ ⟨_, _, _, _, _, q⟩ => q, fun _ _ ⟨_, _, _, _, _, q⟩ => q⟩
  · exact fin .non H' g' (.val .non) S' R'.base R'.sto R'.fN Rep.non q
  · refine fin v H' g' t S' R'.base R'.sto R'.fN ?_ q
    cases t with
    | val d => exact rt
    | own m => obtain ⟨a, h1, h2, h3, h4, h5, _⟩ := rt; exact ⟨a, h1, h2, h3, h4, h5⟩
end
end VC

set_option Elab.async false
set_option linter.all false
set_option maxRecDepth 100000
set_option maxHeartbeats 4000000
/-! VI: enumerate and zip over lists and tuples in any mix. -/
namespace VC
open PySem PySem.Spec PyProof.Rows L2

/-- a walk of n turns, each a new tuple of f, while C holds -/
def Itx (C : Hp → Prop) (n : Nat) (f : Nat → List V) : It :=
  ⟨fun i H => C H ∧ i < n, fun i H v H' => ∃ T, v = .ref T ∧ H T = none ∧ H' = upd H T (.tup (f i)), fun i H => C H ∧ i = n⟩
theorem turn_wt {P : Program} {w : World} {K : PySem.W.Frag} {elts : List Expr} {kk : Nat} {tpos : Pos} {C : Hp → Prop} {n : Nat} {f : Nat → List V} {it : Addr} {cells wr : List Addr} {tn : Nat → Heap → Prop}
    (mem : it ∈ cells) (wrs : ∀ b ∈ wr, b ∈ cells) (fl : ∀ i, (f i).length ≤ sizeLine)
    (obj : ∀ i h, tn i h → ∀ b ∈ cells, ∃ o, h.get? b = some o ∧ ∀ v, o.data ≠ .cell v)
    (keep : ∀ i h h', tn i h → (∀ b ∈ cells, ∀ o, h.get? b = some o → h'.get? b = some o) → tn i h')
    (self : ∀ (A : Around) (i : Nat) (s : Shared) (Q : Value → Shared → Prop) (E : Value → Shared → Prop), tn i s.heap → Q (.ref it) s → wpAny (model P w) A (pyIter (.ref it)) Q E s)
    (src : ∀ (X : Cx), X.prog = P → X.w = w → X.K = K → X.calm = true → ∀ (pins : List (Addr × Obj)) (s : Shared) (σ : L2.St) (H : Hp), Inv X pins σ H s → C H →
      ∃ fp Pt St Mid, WalksT P w X.A it fp wr n Pt St Mid ∧ (∀ i, tn i s.heap → St i s.heap) ∧ (∀ i h, St i h → tn i h) ∧ (∀ i vals, i < n → Pt i vals → Vals (f i) vals.toList)) :
    Turn P w K (.Tuple elts kk tpos) (Itx C n f) cells it tn where
  mem := mem
  obj := obj
  keep := keep
  self := self
  item := by
    intro X hP hw hK hc i pins s σ H E I hf st hg
    obtain ⟨hC, hi⟩ := hg
    obtain ⟨fp, Pt, St, Mid, W, toS, ofS, ptv⟩ := src X hP hw hK hc pins s σ H I hC
    have hP' := hP; have hw' := hw
    subst hP hw hK
    have cl : ∀ b ∈ cells, b < s.heap.objs.size := fun b hb => by obtain ⟨o, ho, _⟩ := obj i s.heap st b hb; exact Heap.lt_size ho
    refine W.item i s _ _ hi (toS i st) fun T vals h' tk pt hT hTup mid hk => ?_
    refine ⟨_, rfl, W.go elts kk tpos i T { s with heap := h', toks := tk } _ _ mid fun h'' st' hk' => ?_⟩
    have vl := ptv i vals hi pt
    have hTn : T ∉ wr := W.apart i T h' mid
    have hT2 : ∃ o, h''.get? T = some o ∧ o.cls = .type "tuple" ∧ ∃ m, o.data = .seq vals m := by
      obtain ⟨o, e, c, m, d⟩ := hTup
      exact ⟨o, hk' T o hTn e, c, m, d⟩
    have new : ObjOk X.prog X.w (upd H T (.tup (f i))) h'' T (.tup (f i)) := by
      obtain ⟨o, e, c, m, d⟩ := hT2
      exact ⟨fl i, vals.toList, vl, ⟨o, e, c, m, by simpa using d⟩⟩
    have I1 : Inv X pins σ (upd H T (.tup (f i))) { s with heap := h'', toks := tk } :=
      I.turnedNew (ch := cells) (fun b ob hb q => hk' b ob (fun z => hb (wrs b z)) (hk b ob (fun z => hb (wrs b z)) q)) hf hT new
    refine ⟨.ref T, _, I1, rfl, ⟨T, rfl, I.hok.fresh hT, rfl⟩, ofS _ _ st', fun b hb => ?_⟩
    rw [upd_ne (Nat.ne_of_lt (Nat.lt_of_lt_of_le (cl b hb) hT))]
    exact (hf b hb).1
  done := by
    intro X hP hw hK hc i pins s σ H E I hf st hg
    obtain ⟨hC, hi⟩ := hg
    obtain ⟨fp, Pt, St, Mid, W, toS, ofS, ptv⟩ := src X hP hw hK hc pins s σ H I hC
    subst hP hw hK hi
    exact W.done s _ _ (toS _ st) fun h' tk hk => ⟨rfl, I.turnedL (t' := tk) (ch := cells) (fun b o hb q => hk b o (fun z => hb (wrs b z)) q) hf⟩

/-- its iterator -/
def itObj (isL : Bool) (a : Addr) : Obj := { cls := .type (if isL then "list_iterator" else "tuple_iterator"), data := .fields #[.ref a, .int 0 0] }
def ItAt (isL : Bool) (h : Heap) (it a : Addr) (i : Nat) : Prop := if isL then h.IsListIter it a i else h.IsTupleIter it a i
def SqB (isL : Bool) (h : Heap) (a : Addr) (its : Array Value) : Prop := if isL then h.IsList a its else h.IsTuple a its
theorem begins_sq (isL : Bool) (a : Addr) (its : Array Value) : Begins (.ref a) (itObj isL a) fun h => SqB isL h a its := by
  cases isL with
  | true => exact begins_list a its
  | false => exact begins_tuple a its
theorem draws_sq {prog : Program} {w : World} {A : Around} (hh : A.handled = none) (isL : Bool) (it a : Addr) (hne : a ≠ it) (its : Array Value) :
    Draws prog w A it [it, a] its.size (fun i v => its[i]? = some v) (fun i h => ItAt isL h it a i ∧ SqB isL h a its) := by
  cases isL with
  | true => exact Draws.list hh it a hne its
  | false => exact Draws.tuple hh it a hne its
theorem ItAt.at {isL : Bool} {h h' : Heap} {it a : Addr} {i : Nat} (x : ItAt isL h it a i) (k : ∀ o, h.get? it = some o → h'.get? it = some o) : ItAt isL h' it a i := by
  cases isL with
  | true => exact Heap.IsListIter.at x k
  | false => exact Heap.IsTupleIter.at x k
theorem ItAt.obj {isL : Bool} {h : Heap} {it a : Addr} {i : Nat} (x : ItAt isL h it a i) : ∃ o, h.get? it = some o ∧ ∀ v, o.data ≠ .cell v := by
  cases isL with
  | true => obtain ⟨o, e, _, d⟩ := x; exact ⟨o, e, fun v q => by rw [d] at q; cases q⟩
  | false => obtain ⟨o, e, _, d⟩ := x; exact ⟨o, e, fun v q => by rw [d] at q; cases q⟩
theorem ItAt.new {isL : Bool} {h : Heap} {it a : Addr} (e : h.get? it = some (itObj isL a)) : ItAt isL h it a 0 := by
  cases isL with
  | true => exact ⟨_, e, rfl, rfl⟩
  | false => exact ⟨_, e, rfl, rfl⟩
/-- which of both -/
def SqK (isL : Bool) (H : Hp) (a : Addr) (xs : List V) : Prop := if isL then Rd H a (.lst xs) else H a = some (.tup xs)
theorem Inv.sqk {X : Cx} {pins : List (Addr × Obj)} {s : Shared} {σ : L2.St} {H : Hp} {a : Addr} {xs : List V} {isL : Bool} (I : Inv X pins σ H s) (h : SqK isL H a xs) : ∃ its : List Value, Vals xs its ∧ SqB isL s.heap a its.toArray ∧ xs.length ≤ sizeLine ∧ a < s.heap.objs.size := by
  cases isL with
  | true =>
    obtain ⟨its, r, p, z⟩ := I.list (.inl h)
    exact ⟨its, r, p.isList, z, p.lt⟩
  | false =>
    obtain ⟨its, r, p, z⟩ := I.tuple (SqT.at h)
    exact ⟨its, r, p, z, p.lt⟩
/-! ### enumerate -/
section
set_option maxHeartbeats 1000000 in
theorem meets_enumerate_new1 {v : Value} {o : Obj} {H : Heap → Prop} (B : Begins v o H) :
    Meets (Builtin.«enumerate.__new__» ⟨[.type "enumerate", v], []⟩) (fun _ R s => H s.heap ∧
      R (.ok (.ret (.ref (s.heap.push o).objs.size))) { s with heap := (s.heap.push o).push { cls := .type "enumerate", data := .fields #[.none, .bool false, .ref s.heap.objs.size, rawInt 0, .none, .none] } }) :=
  .of_wp fun prog w A R s h => by
    obtain ⟨hp, g, d, tk, os⟩ := s; obtain ⟨h1, h⟩ := h
    have hsub := sub_enumerate
    have q1 : ∀ {A' : Around} {E : Value → Shared → Prop} {Q : Value → Shared → Prop}, Q (.ref hp.objs.size) ⟨hp.push o, g, d, tk, os⟩ → wpAny (model prog w) A' (pyIter v) Q E ⟨hp, g, d, tk, os⟩ :=
      fun q => B.iter prog w _ _ ⟨hp, g, d, tk, os⟩ _ h1 q
    wp_walk using q1
    refine wpAny_stack_any fun st => wpAny_pure ?_
    split
    · rename_i c _ _ _ _ _
      cases (c == Value.type "enumerate")
      · wp_walk using q1
        exact ⟨_, rfl, h⟩
      · wp_walk using q1
        exact ⟨_, rfl, h⟩
    · wp_walk using q1
      exact ⟨_, rfl, h⟩
theorem enum_begins1 {prog : Program} {w : World} {A : Around} {E : Value → Shared → Prop} {s : Shared} {v : Value} {o : Obj} {H : Heap → Prop} {Q : Value → Shared → Prop} (B : Begins v o H) (h1 : H s.heap)
    (h : ∀ h', IsEnum h' (s.heap.objs.size + 1) s.heap.objs.size 0 .none → h'.get? s.heap.objs.size = some o → h'.objs.size = s.heap.objs.size + 2 →
      (∀ b o, s.heap.get? b = some o → h'.get? b = some o) → Q (.ref (s.heap.objs.size + 1)) { s with heap := h' }) :
    wpAny (model prog w) A (call (.type "enumerate") [v]) Q E s := by
  refine callType_new F.called_enumerate (by decide) (F.typeCall_enumerate_1 _) (F.newCall_enumerate_1 _) (fun obj => F.args_object_init_2 obj _) F.entry_enumerate_new
    (meets_enumerate_new1 B) ⟨h1, ?_⟩
  have hz : (s.heap.push o).objs.size = s.heap.objs.size + 1 := Heap.size_push ..
  show _ ∧ _
  rw [hz]
  have he : IsEnum ((s.heap.push o).push { cls := .type "enumerate", data := .fields #[.none, .bool false, .ref s.heap.objs.size, rawInt 0, .none, .none] }) (s.heap.objs.size + 1) s.heap.objs.size 0 .none := by
    have := Heap.get?_push_size (s.heap.push o) (o := { cls := .type "enumerate", data := .fields #[.none, .bool false, .ref s.heap.objs.size, rawInt 0, .none, .none] }) rfl
    rw [hz] at this; exact this
  refine ⟨⟨_, he, rfl⟩, h _ he (Heap.get?_push_of_some _ (Heap.get?_push_size _ B.free)) (by rw [Heap.size_push, hz]) fun b o x => Heap.get?_push_of_some _ (Heap.get?_push_of_some _ x)⟩
end
def enF (xs : List V) : Nat → List V := fun i => [.int (i : Nat), xs.getD i .non]
theorem vals_getD {xs : List V} {its : List Value} (r : Vals xs its) {i : Nat} {u : Value} (h : its[i]? = some u) : RelV (xs.getD i .non) u := by
  have hi : i < xs.length := by rw [r.length]; exact (List.getElem?_eq_some_iff.mp h).1
  obtain ⟨u', h1, h2⟩ := r.get (List.getElem?_eq_getElem hi)
  rw [h] at h1; cases h1
  rw [List.getD_eq_getElem?_getD, List.getElem?_eq_getElem hi]
  exact h2
theorem turn_enX {P : Program} {w : World} {K : PySem.W.Frag} {elts : List Expr} {kk : Nat} {tpos : Pos} {isL : Bool} {xs : List V} (a e it : Addr) (hle : a ≠ e) (hli : a ≠ it) (hei : e ≠ it) :
    Turn P w K (.Tuple elts kk tpos) (Itx (fun H => SqK isL H a xs) xs.length (enF xs)) [e, it] e (fun i h => (∃ old, IsEnum h e it ((i : Nat) : Int) old) ∧ ItAt isL h it a i) := by
  refine turn_wt (wr := [e, it]) (by simp) (fun b hb => hb) (fun i => by show 2 ≤ sizeLine; decide) (fun i h st b hb => ?_) (fun i h h' st k => ?_) (fun A i s Q E st h => let ⟨⟨_, he⟩, _⟩ := st; wpAny_pyIter_enum he h) fun X hP hw hK hc pins s σ H I hC => ?_
  · obtain ⟨⟨old, he⟩, hit⟩ := st
    have e' : b = e ∨ b = it := by simpa using hb
    rcases e' with z | z
    · rw [z]; exact ⟨_, he, fun v q => nomatch q⟩
    · rw [z]; exact hit.obj
  · obtain ⟨⟨old, he⟩, hi⟩ := st
    exact ⟨⟨old, k e (by simp) _ he⟩, hi.at fun o q => k it (by simp) o q⟩
  · obtain ⟨its, rv, hs, hz, hl⟩ := Inv.sqk I hC
    have D := draws_sq (prog := P) (w := w) (A := X.A.in1) (I.ok.hd hc) isL it a hli its.toArray
    have W := WalksT.enumerateD D e hei (by simp [hei, Ne.symm hle]) (by simp)
    have hn : its.toArray.size = xs.length := by rw [List.size_toArray]; exact rv.length.symm
    rw [hn] at W
    refine ⟨_, _, _, _, W, fun i st => ⟨st.1, st.2, hs⟩, fun i h st => ⟨st.1, st.2.1⟩, fun i vals hi ⟨t, x, hx, ev⟩ => ?_⟩
    subst ev
    exact .cons ⟨t, rfl⟩ (.cons (vals_getD rv (by simpa using hx)) .nil)

/-! ### zip -/
def zpF (xs ys : List V) : Nat → List V := fun i => [xs.getD i .non, ys.getD i .non]
/-! ### as what a loop walks -/
section
variable {X : Cx} {B : Hp} {g0 : Gh} {e e2 : Expr} {p pos tpos : Pos} {elts : List Expr} {kk : Nat}
def iEnX (ta : TA) : TI := fun σ H R => ta σ H fun vs H1 => ∃ a xs isL, vs = [.ref a] ∧ SqK isL H1 a xs ∧ R (Itx (fun H => SqK isL H a xs) xs.length (enF xs)) H1
theorem pi_enX {ta : TA} (hg : Gl X "enumerate") (hm : X.mg "enumerate" = none) (ha : PA X [e] ta) (hs : starEach [e] X.env = [(false, eval e X.env)] := by rfl) :
    PI X (.Tuple elts kk tpos) (.Call (.Name "enumerate" p) [e] [] pos) (iEnX ta) := by
  refine ⟨fun pins s σ H R I h => ?_⟩
  refine Call_ (ld_blt I hg hm boot_enumerate (PyProof.Rows.callWith_type1 (thn (ha.run pos pins s σ H _ I h) fun us s1 ⟨vs, H1, I1, r1, q1⟩ => ?_) hs rfl))
  obtain ⟨a, xs, isL, ex, hq, q⟩ := q1
  subst ex
  cases r1 with
  | cons r rr =>
    cases rr
    cases r
    obtain ⟨its, rv, hb, hz, hl⟩ := Inv.sqk I1 hq
    refine enum_begins1 (begins_sq isL a its.toArray) hb fun h' he ho hsz hk => wpAny_pyIter_enum he ?_
    have I2 : Inv X pins σ H1 { s1 with heap := h' } := I1.kept (t' := s1.toks) hk
    refine ⟨s1.heap.objs.size + 1, [s1.heap.objs.size + 1, s1.heap.objs.size], _, _, H1, rfl, I2, turn_enX a (s1.heap.objs.size + 1) s1.heap.objs.size (Nat.ne_of_lt (Nat.lt_succ_of_lt hl)) (Nat.ne_of_lt hl) (Nat.succ_ne_self _), ⟨⟨.none, he⟩, ItAt.new ho⟩, fun b hb => ?_, q⟩
    have e' : b = s1.heap.objs.size + 1 ∨ b = s1.heap.objs.size := by simpa using hb
    have hle : s1.heap.objs.size ≤ b := by
      rcases e' with z | z
      · rw [z]; exact Nat.le_add_right _ _
      · rw [z]; exact Nat.le_refl _
    exact I1.fpOk hle (I1.hok.fresh hle)
def iZpX (ta : TA) : TI := fun σ H R => ta σ H fun vs H1 => ∃ a b xs ys k1 k2, vs = [.ref a, .ref b] ∧ SqK k1 H1 a xs ∧ SqK k2 H1 b ys ∧ R (Itx (fun H => SqK k1 H a xs ∧ SqK k2 H b ys) (min xs.length ys.length) (zpF xs ys)) H1
/-- a held list or tuple -/
theorem rep_sq {mg : Str → Option Value} {w : WK} {g : Gh} {H : Hp} {d : D} {v : V} {ds : List D} (r : Rep mg w g H d v) (h : d = .lst ds ∨ d = .tup ds) :
    ∃ a vs isL, v = .ref a ∧ SqK isL H a vs ∧ RepAll mg w g H ds vs ∧ ∀ g' H', Fz g H g' H' → SqK isL H' a vs := by
  rcases h with rfl | rfl
  · cases r with
    | @lst a vs ds h0 h1 h2 => exact ⟨a, vs, true, rfl, h1, h2, fun g' H' z => z.rd h0 h1⟩
  · cases r with
    | @tup a vs ds h1 h2 => exact ⟨a, vs, false, rfl, h1, h2, fun g' H' z => z.tup _ _ h1⟩
theorem RepAll.getD {mg : Str → Option Value} {w : WK} {g : Gh} {H : Hp} {ds : List D} {vs : List V} {i : Nat} {d : D} (r : RepAll mg w g H ds vs) (h : ds[i]? = some d) : Rep mg w g H d (vs.getD i .non) := by
  obtain ⟨v, h1, h2⟩ := r.get h
  rw [List.getD_eq_getElem?_getD, h1]
  exact h2
def enumD : Nat → List D → List D
  | _, [] => []
  | k, d :: ds => .tup [.int (k : Int), d] :: enumD (k + 1) ds
def zipD : List D → List D → List D
  | d :: ds, e :: es => .tup [d, e] :: zipD ds es
  | _, _ => []
theorem enumD_len : ∀ (ds : List D) (k : Nat), (enumD k ds).length = ds.length
  | [], _ => rfl
  | _ :: ds, k => by simp [enumD, enumD_len ds]
theorem enumD_get : ∀ (ds : List D) (k i : Nat) {x : D}, (enumD k ds)[i]? = some x → ∃ d, ds[i]? = some d ∧ x = .tup [.int ((k + i : Nat) : Int), d]
  | [], _, _, _, h => by simp [enumD] at h
  | d :: ds, k, 0, x, h => by simp [enumD] at h; exact ⟨d, by simp, by simpa using h.symm⟩
  | d :: ds, k, i + 1, x, h => by
    obtain ⟨e, h1, h2⟩ := enumD_get ds (k + 1) i (x := x) (by simpa [enumD] using h)
    exact ⟨e, h1, by rw [h2, Nat.add_assoc, Nat.add_comm 1 i]⟩
theorem zipD_len : ∀ (ds es : List D), (zipD ds es).length = min ds.length es.length
  | [], _ => by simp [zipD]
  | _ :: _, [] => by simp [zipD]
  | _ :: ds, _ :: es => by simp [zipD, zipD_len ds es]
theorem zipD_get : ∀ (ds es : List D) (i : Nat) {x : D}, (zipD ds es)[i]? = some x → ∃ d e, ds[i]? = some d ∧ es[i]? = some e ∧ x = .tup [d, e]
  | [], _, _, _, h => by simp [zipD] at h
  | _ :: _, [], _, _, h => by simp [zipD] at h
  | d :: ds, e :: es, 0, x, h => by simp [zipD] at h; exact ⟨d, e, by simp, by simp, h.symm⟩
  | d :: ds, e :: es, i + 1, x, h => by
    obtain ⟨d', e', h1, h2, h3⟩ := zipD_get ds es i (x := x) (by simpa [zipD] using h)
    exact ⟨d', e', by simpa using h1, by simpa using h2, h3⟩
theorem jok_en {mg : Str → Option Value} {w : WK} {g : Gh} {H : Hp} {a : Addr} {vs : List V} {ds : List D} {isL : Bool} (hs : ∀ g' H', Fz g H g' H' → SqK isL H' a vs) (r : RepAll mg w g H ds vs) : JOk mg w g H (Itx (fun H => SqK isL H a vs) vs.length (enF vs)) (enumD 0 ds) := by
  intro g' H' z tr i
  refine ⟨fun d hd => ?_, fun hl => ⟨hs g' H' z, by rw [hl, enumD_len, r.length]⟩⟩
  obtain ⟨d', h1, h2⟩ := enumD_get ds 0 i hd
  have hi : i < vs.length := by rw [← r.length]; exact (List.getElem?_eq_some_iff.mp h1).1
  refine ⟨⟨hs g' H' z, hi⟩, fun x H2 ⟨T, e1, e2, e3⟩ => ?_⟩
  subst e1 e3 h2
  have hn := New.upd (o := HO.tup (enF vs i)) e2
  refine ⟨hn, .tup upd_same (.cons ?_ (.cons (((r.mono z).getD h1).mono (Fz.new hn tr)) .nil))⟩
  rw [Nat.zero_add]; exact .int _
/-- the items of a list or tuple -/
def sqD : D → (List D → Prop) → Prop
  | .tup ds, K => K ds
  | .lst ds, K => K ds
  | _, _ => False
theorem sqD_mono {d : D} {K K' : List D → Prop} (i : ∀ ds, K ds → K' ds) (q : sqD d K) : sqD d K' := by
  unfold sqD at q ⊢
  split at q <;> first | exact i _ q | exact q
theorem sqD_of {d : D} {K : List D → Prop} (q : sqD d K) : ∃ ds, (d = .lst ds ∨ d = .tup ds) ∧ K ds := by
  unfold sqD at q
  split at q
  · exact ⟨_, .inr rfl, q⟩
  · exact ⟨_, .inl rfl, q⟩
  · exact q.elim
def iEn (W : WA) : WA := fun env S Q => W env S fun ds env' S' => match ds with
  | [d] => sqD d fun ds => Q (enumD 0 ds) env' S'
  | _ => False
theorem vi_enum {W : WA} (hg : Gl X "enumerate") (hm : X.mg "enumerate" = none) (ha : VA X B g0 [e] W) (hs : starEach [e] X.env = [(false, eval e X.env)] := by rfl) : VI X B g0 (.Tuple elts kk tpos) (.Call (.Name "enumerate" p) [e] [] pos) (iEn W) := by
  refine VI.of (fun _ _ _ _ i q => ha.mono _ _ _ _ (fun ds _ _ q => ?_) q) (pi_enX hg hm ha.pa hs) fun σ H env S g Q R q => ?_
  · split at q
    · exact sqD_mono (fun _ => i _ _ _) q
    · exact q.elim
  · refine ⟨env, S, g, _, R, q, fun vs H1 ⟨g1, ds, env1, S1, st1, R1, ra, q1⟩ => ?_⟩
    dsimp only at q1
    split at q1
    · cases ra with
      | cons r ra =>
        cases ra
        obtain ⟨ds, hd, q1⟩ := sqD_of q1
        obtain ⟨a, us, isL, rfl, h1, h2, h3⟩ := rep_sq r hd
        exact ⟨a, us, isL, rfl, h1, g1, _, env1, S1, st1, R1, jok_en h3 h2, q1⟩
    · exact q1.elim
def iZp (W : WA) : WA := fun env S Q => W env S fun ds env' S' => match ds with
  | [d, e] => sqD d fun ds => sqD e fun es => Q (zipD ds es) env' S'
  | _ => False
end
end VC

set_option Elab.async false
set_option linter.all false
set_option maxRecDepth 100000
set_option maxHeartbeats 4000000
/-! VL: list comprehensions. -/
namespace VC
open PySem PySem.Spec PyProof.Rows L2

/-- slots forgotten; put back -/
def wpE (e : VEnv) : List Nat → VEnv
  | [] => e
  | v :: vs => (wpE e vs).set v none
def rst (e1 e : VEnv) : List Nat → VEnv
  | [] => e
  | v :: vs => (rst e1 e vs).set v (slot e1 v)
def noOwn (e : VEnv) : List Nat → Bool
  | [] => true
  | v :: vs => (match slot e v with | some (.own _) => false | _ => true) && noOwn e vs
theorem wpE_len (e : VEnv) : ∀ vs, (wpE e vs).length = e.length
  | [] => rfl
  | v :: vs => by rw [wpE, List.length_set, wpE_len e vs]
theorem wpE_some {e : VEnv} {j : Nat} {t : T} : ∀ {vs : List Nat}, (wpE e vs)[j]? = some (some t) → e[j]? = some (some t) ∧ j ∉ vs
  | [], h => ⟨h, by simp⟩
  | v :: vs, h => by
    unfold wpE at h
    by_cases hj : v = j
    · subst hj
      by_cases hl : v < (wpE e vs).length
      · rw [List.getElem?_set_self hl] at h; cases h
      · rw [List.getElem?_eq_none (by simpa using hl)] at h; cases h
    · rw [List.getElem?_set_ne hj] at h
      obtain ⟨h1, h2⟩ := wpE_some h
      exact ⟨h1, by simp only [List.mem_cons, not_or]; exact ⟨fun z => hj z.symm, h2⟩⟩
theorem rst_len (e1 e : VEnv) : ∀ vs, (rst e1 e vs).length = e.length
  | [] => rfl
  | v :: vs => by rw [rst, List.length_set, rst_len e1 e vs]
theorem rst_some {e1 e : VEnv} {j : Nat} {t : T} : ∀ {vs : List Nat}, (rst e1 e vs)[j]? = some (some t) → (j ∈ vs ∧ slot e1 j = some t) ∨ (j ∉ vs ∧ e[j]? = some (some t))
  | [], h => .inr ⟨by simp, h⟩
  | v :: vs, h => by
    unfold rst at h
    by_cases hj : v = j
    · subst hj
      by_cases hl : v < (rst e1 e vs).length
      · rw [List.getElem?_set_self hl] at h
        exact .inl ⟨by simp, Option.some.inj h⟩
      · rw [List.getElem?_eq_none (by simpa using hl)] at h; cases h
    · rw [List.getElem?_set_ne hj] at h
      rcases rst_some h with ⟨h1, h2⟩ | ⟨h1, h2⟩
      · exact .inl ⟨List.mem_cons_of_mem _ h1, h2⟩
      · exact .inr ⟨by simp only [List.mem_cons, not_or]; exact ⟨fun z => hj z.symm, h1⟩, h2⟩
theorem noOwn_at {e : VEnv} {j : Nat} {m : M} : ∀ {vs : List Nat}, noOwn e vs = true → j ∈ vs → slot e j = some (.own m) → False
  | v :: vs, h, hj, hs => by
    simp only [noOwn, Bool.and_eq_true] at h
    rcases List.mem_cons.mp hj with z | z
    · subst z; rw [hs] at h; exact absurd h.1 (by simp)
    · exact noOwn_at h.2 z hs
theorem wipe_get_in {σ : L2.St} {j : Nat} : ∀ {vs : List Nat}, j ∈ vs → j < σ.length → (wipe σ vs)[j]? = some none
  | v :: vs, h, hl => by
    unfold wipe
    by_cases hj : v = j
    · subst hj; rw [List.getElem?_set_self (by rw [wipe_length]; exact hl)]
    · rw [List.getElem?_set_ne hj]
      exact wipe_get_in ((List.mem_cons.mp h).resolve_left fun z => hj z.symm) hl
theorem wipe_wipe {σ : L2.St} {vs : List Nat} : wipe (wipe σ vs) vs = wipe σ vs := by
  apply List.ext_getElem?
  intro j
  by_cases hj : j ∈ vs
  · by_cases hl : j < σ.length
    · rw [wipe_get_in hj (by rw [wipe_length]; exact hl), wipe_get_in hj hl]
    · rw [List.getElem?_eq_none (by rw [wipe_length, wipe_length]; omega), List.getElem?_eq_none (by rw [wipe_length]; omega)]
  · rw [wipe_out hj]
theorem wipe_but {σ σ' : L2.St} {is vs : List Nat} (h : But is σ σ') (hs : ∀ i ∈ is, i ∈ vs) : wipe σ' vs = wipe σ vs := by
  apply List.ext_getElem?
  intro j
  by_cases hj : j ∈ vs
  · by_cases hl : j < σ.length
    · rw [wipe_get_in hj hl, wipe_get_in hj (by rw [h.1]; exact hl)]
    · have hl1 := h.1
      rw [List.getElem?_eq_none (by rw [wipe_length]; omega), List.getElem?_eq_none (by rw [wipe_length]; omega)]
  · rw [wipe_out hj, wipe_out hj]
    exact h.2 j fun z => hj (hs j z)
section
variable {mg : Str → Option Value} {w : WK} {B : Hp} {g0 g g1 : Gh} {H H1 : Hp} {σ : L2.St} {env env1 : VEnv} {S S1 : Sto}
theorem Rp.wipe (R : Rp mg w B g0 g H σ env S) (vs : List Nat) : Rp mg w B g0 g H (L2.wipe σ vs) (wpE env vs) S := by
  refine ⟨R.sto, by rw [wpE_len, wipe_length]; exact R.len, fun j d q => ?_, fun j m q => ?_, fun j k m m' a q1 q2 h1 h2 => ?_, R.base, R.fN, R.noTup⟩
  · obtain ⟨h1, h2⟩ := wpE_some q
    obtain ⟨v, k1, k2⟩ := R.val j d h1
    exact ⟨v, by rw [wipe_out h2]; exact k1, k2⟩
  · obtain ⟨h1, h2⟩ := wpE_some q
    obtain ⟨a, k1, k2⟩ := R.own j m h1
    exact ⟨a, by rw [wipe_out h2]; exact k1, k2⟩
  · obtain ⟨e1, n1⟩ := wpE_some q1
    obtain ⟨e2, n2⟩ := wpE_some q2
    rw [wipe_out n1] at h1
    rw [wipe_out n2] at h2
    exact R.inj j k m m' a e1 e2 h1 h2
/-- behind a block -/
theorem Rp.block {vs : List Nat} (R1 : Rp mg w B g0 g1 H1 σ env1 S1) (no : noOwn env1 vs = true) (R : Rp mg w B g0 g H (L2.wipe σ vs) env S) (z : Fz g1 H1 g H) : Rp mg w B g0 g H σ (rst env1 env vs) S := by
  refine ⟨R.sto, by rw [rst_len, R.len, wipe_length], fun j d q => ?_, fun j m q => ?_, fun j k m m' a q1 q2 h1 h2 => ?_, R.base, R.fN, R.noTup⟩
  · rcases rst_some q with ⟨h1, h2⟩ | ⟨h1, h2⟩
    · obtain ⟨v, k1, k2⟩ := R1.val j d (slot_get h2)
      exact ⟨v, k1, k2.mono z⟩
    · obtain ⟨v, k1, k2⟩ := R.val j d h2
      rw [wipe_out h1] at k1
      exact ⟨v, k1, k2⟩
  · rcases rst_some q with ⟨h1, h2⟩ | ⟨h1, h2⟩
    · exact (noOwn_at no h1 h2).elim
    · obtain ⟨a, k1, k2⟩ := R.own j m h2
      rw [wipe_out h1] at k1
      exact ⟨a, k1, k2⟩
  · rcases rst_some q1 with ⟨n1, e1⟩ | ⟨n1, e1⟩
    · exact (noOwn_at no n1 e1).elim
    · rcases rst_some q2 with ⟨n2, e2⟩ | ⟨n2, e2⟩
      · exact (noOwn_at no n2 e2).elim
      · exact R.inj j k m m' a e1 e2 (by rw [wipe_out n1]; exact h1) (by rw [wipe_out n2]; exact h2)
/-- an object that nobody here holds is changed -/
theorem Fz.upd {p : Addr} {o u : HO} (h : H p = some o) (ht : ∀ vs, o ≠ .tup vs) (nF : ¬ g.F p) : Fz g H g (L2.upd H p u) :=
  ⟨fun a vs e => by
    by_cases ha : a = p
    · subst ha; rw [h] at e; exact absurd (Option.some.inj e) (ht vs)
    · rw [upd_ne ha]; exact e, fun a hF => upd_ne fun z => nF (z ▸ hF), fun _ h => h, ⟨[], by simp⟩⟩
theorem Rp.mut {p : Addr} {o u : HO} (R : Rp mg w B g0 g H σ env S) (h : H p = some o) (ht : ∀ vs, o ≠ .tup vs) (nF : ¬ g.F p) (nρ : p ∉ g.ρ) (nB : B p = none) (no : ∀ (i : Nat) (m : M), env[i]? = some (some (T.own m)) → σ[i]? ≠ some (some (V.ref p))) : Rp mg w B g0 g (L2.upd H p u) σ env S := by
  have z : Fz g H g (L2.upd H p u) := Fz.upd h ht nF
  have so : StoOk mg w g (L2.upd H p u) S := ⟨R.sto.len, R.sto.nd, fun k a m h1 h2 => (R.sto.at_ k a m h1 h2).mono z (upd_ne fun q => nρ (q ▸ List.mem_of_getElem? h1)), R.sto.nF, fun a hF => by
    have na : a ≠ p := fun q => nF (by rw [← q]; exact hF)
    rw [upd_ne na]; exact R.sto.tr a hF⟩
  refine ⟨so, R.len, fun i d e => ?_, fun i m e => ?_, R.inj, ⟨R.base.toFz.trans z, fun a o' e ha => ?_, R.base.rN⟩, R.fN, R.noTup⟩
  · obtain ⟨v, h1, h2⟩ := R.val i d e
    exact ⟨v, h1, h2.mono z⟩
  · obtain ⟨a, h1, h2, h3⟩ := R.own i m e
    exact ⟨a, h1, h2.mono z (upd_ne fun q => no i m e (q ▸ h1)), h3⟩
  · rw [upd_ne fun q => by rw [q, nB] at e; cases e]
    exact R.base.oth a o' e ha
end

/-! ### another base: all that the body does not own -/
section
variable {mg : Str → Option Value} {w : WK} {B : Hp} {g0 g g' : Gh} {H H' : Hp} {σ σ' : L2.St} {env env' : VEnv} {S S' : Sto}
def OwnAt (σ : L2.St) (env : VEnv) (a : Addr) : Prop := ∃ (i : Nat) (m : M), env[i]? = some (some (T.own m)) ∧ σ[i]? = some (some (V.ref a))
open Classical in
noncomputable def reB (H : Hp) (σ : L2.St) (env : VEnv) : Hp := fun a => if OwnAt σ env a then none else H a
theorem reB_own {a : Addr} (h : OwnAt σ env a) : reB H σ env a = none := by unfold reB; rw [if_pos h]
theorem reB_ne {a : Addr} (h : ¬ OwnAt σ env a) : reB H σ env a = H a := by unfold reB; rw [if_neg h]
theorem reB_some {a : Addr} {o : HO} (h : reB H σ env a = some o) : ¬ OwnAt σ env a ∧ H a = some o := by
  by_cases k : OwnAt σ env a
  · rw [reB_own k] at h; cases h
  · rw [reB_ne k] at h; exact ⟨k, h⟩
theorem reB_none {a : Addr} (h : reB H σ env a = none) : OwnAt σ env a ∨ H a = none := by
  by_cases k : OwnAt σ env a
  · exact .inl k
  · rw [reB_ne k] at h; exact .inr h
theorem Rp.ownAt (R : Rp mg w B g0 g H σ env S) {a : Addr} (h : OwnAt σ env a) : B a = none ∧ ¬ g.F a ∧ a ∉ g.ρ ∧ ∃ o, H a = some o ∧ ∀ vs, o ≠ .tup vs := by
  obtain ⟨i, m, h1, h2⟩ := h
  obtain ⟨b, k1, k2, k3, k4, k5⟩ := R.own i m h1
  rw [h2] at k1; cases k1
  exact ⟨k3, k4, k5, k2.there⟩
theorem Rp.rebase (R : Rp mg w B g0 g H σ env S) : Rp mg w (reB H σ env) g g H σ env S := by
  refine ⟨R.sto, R.len, R.val, fun i m e => ?_, R.inj, ⟨⟨fun a vs e => (reB_some e).2, fun a hF => ?_, fun _ h => h, ⟨[], by simp⟩⟩, fun a o e _ => (reB_some e).2, fun _ h => .inl h⟩, fun a h => .inl h, fun a ha vs e => ?_⟩
  · obtain ⟨a, h1, h2, h3, h4, h5⟩ := R.own i m e
    exact ⟨a, h1, h2, reB_own ⟨i, m, e, h1⟩, h4, h5⟩
  · exact (reB_ne fun k => (R.ownAt k).2.1 hF).symm
  · obtain ⟨o, q, n⟩ := R.sto.there ha
    have := (reB_some e).2
    rw [q] at this
    exact n vs (Option.some.inj this)
theorem Rp.unbase (R : Rp mg w B g0 g H σ env S) (R' : Rp mg w (reB H σ env) g g' H' σ' env' S') : Rp mg w B g0 g' H' σ' env' S' := by
  have key : ∀ a, reB H σ env a = none → B a = none := fun a h => by
    rcases reB_none h with k | k
    · exact (R.ownAt k).1
    · exact R.bn k
  refine ⟨R'.sto, R'.len, R'.val, fun i m e => ?_, R'.inj, ⟨⟨fun a vs e => ?_, fun a hF => ?_, fun a h => R'.base.F a (R.base.F a h), ?_⟩, fun a o e ha => ?_, fun a ha => ?_⟩, fun a h => ?_, fun a ha vs e => ?_⟩
  · obtain ⟨a, h1, h2, h3, h4⟩ := R'.own i m e
    exact ⟨a, h1, h2, key a h3, h4⟩
  · have h := R.base.tup a vs e
    exact R'.base.tup a vs ((reB_ne fun k => by obtain ⟨o, q, n⟩ := (R.ownAt k).2.2.2; rw [h] at q; exact n vs (Option.some.inj q).symm).trans h)
  · have h := R.base.F a hF
    rw [R'.base.frz a h, reB_ne fun k => (R.ownAt k).2.1 h]
    exact R.base.frz a hF
  · obtain ⟨t, e⟩ := R.base.ρ
    obtain ⟨u, e'⟩ := R'.base.ρ
    exact ⟨t ++ u, by rw [e', e, List.append_assoc]⟩
  · have h := R.base.oth a o e ha
    refine R'.base.oth a o ((reB_ne fun k => by rw [(R.ownAt k).1] at e; cases e).trans h) fun z => ?_
    rcases R.base.rN a z with q | q
    · exact ha q
    · rw [e] at q; cases q
  · rcases R'.base.rN a ha with q | q
    · exact R.base.rN a q
    · exact .inr (key a q)
  · rcases R'.fN a h with q | q
    · exact R.fN a q
    · exact .inr (key a q)
  · rcases R'.base.rN a ha with q | q
    · exact R.noTup a q vs e
    · rw [key a q] at e; cases e
theorem Rp.apart (R' : Rp mg w (reB H σ env) g g' H' σ' env' S') {p : Addr} {o : HO} (h : H p = some o) (no : ¬ OwnAt σ env p) (nF : ¬ g.F p) (nρ : p ∉ g.ρ) : H' p = some o ∧ ¬ OwnAt σ' env' p ∧ ¬ g'.F p ∧ p ∉ g'.ρ := by
  have hb : reB H σ env p = some o := (reB_ne no).trans h
  refine ⟨R'.base.oth p o hb nρ, fun k => ?_, fun k => ?_, fun k => ?_⟩
  · have := (R'.ownAt k).1
    rw [hb] at this; cases this
  · rcases R'.fN p k with q | q
    · exact nF q
    · rw [hb] at q; cases q
  · rcases R'.base.rN p k with q | q
    · exact nρ q
    · rw [hb] at q; cases q
end

/-! ### the comprehension -/
def lcW (vs : List Nat) (G : WG) (Wt : WT) (We : WE) : List D → List D → VEnv → Sto → (List D → VEnv → Sto → Prop) → Prop
  | [], acc, env, S, Q => Q acc env S
  | d :: ds, acc, env, S, Q => G d env S fun env1 S1 => Wt env1 S1 fun b env2 S2 =>
    Ite b (We env2 S2 fun t env3 S3 => lcW vs G Wt We ds (acc ++ [t.d]) (wpE env3 vs) S3 Q) (lcW vs G Wt We ds acc (wpE env2 vs) S2 Q)
theorem lcW_mono {vs : List Nat} {G : WG} {Wt : WT} {We : WE} (mg : ∀ d env S (Q Q' : WEnd), (∀ e s, Q e s → Q' e s) → G d env S Q → G d env S Q') (mt : Mo Wt) (me : Mo We) {Q Q' : List D → VEnv → Sto → Prop} (i : ∀ t e s, Q t e s → Q' t e s) :
    ∀ items acc env S, lcW vs G Wt We items acc env S Q → lcW vs G Wt We items acc env S Q'
  | [], _, _, _, q => i _ _ _ q
  | d :: ds, acc, _, _, q => mg _ _ _ _ _ (fun _ _ q => mt _ _ _ _ (fun b _ _ q => q.mono (me _ _ _ _ (fun _ _ _ q => lcW_mono mg mt me i ds _ _ _ q)) (lcW_mono mg mt me i ds _ _ _)) q) q
def wLc (vs : List Nat) (Wi : WA) (G : WG) (Wt : WT) (We : WE) : WE := fun env S Q => Wi env S fun items env1 S1 =>
  (noOwn env1 vs = true ∧ items.length ≤ 1000000) ∧ lcW vs G Wt We items [] (wpE env1 vs) S1 fun acc env2 S2 => Q (.own (.lst acc)) (rst env1 env2 vs) S2
def wYes : WT := fun env S Q => Q true env S
section
variable {X : Cx} {B : Hp} {g0 : Gh} {elt tg iter c : Expr} {ifs : List Expr} {scope : Scope} {own : List (Str × Nat)} {pos : Pos}
structure VTs (X : Cx) (B : Hp) (g0 : Gh) (ifs : List Expr) (W : WT) : Prop where
  mono : Mo W
  pts : PTs X ifs (tT X B g0 W)
theorem vts_nil : VTs X B g0 [] wYes := ⟨fun _ _ _ _ i q => i _ _ _ q, ⟨fun pins s σ H Q I ⟨env, S, g, Q0, R, q, k⟩ => pts_nil.run pins s σ H Q I (k _ _ ⟨g, env, S, Stp.refl g H, R, q⟩)⟩⟩
theorem vts_one {W : WT} (h : VT X B g0 c W) : VTs X B g0 [c] W := ⟨h.mono, pts_one h.pt⟩
theorem wLc_mono {vs : List Nat} {Wi : WA} {G : WG} {Wt : WT} {We : WE} (mi : Mo Wi) (mg : ∀ d env S (Q Q' : WEnd), (∀ e s, Q e s → Q' e s) → G d env S Q → G d env S Q') (mt : Mo Wt) (me : Mo We) : Mo (wLc vs Wi G Wt We) := fun _ _ _ _ i q =>
  mi _ _ _ _ (fun items _ _ q => ⟨q.1, lcW_mono mg mt me (fun _ _ _ q => i _ _ _ q) items _ _ _ q.2⟩) q
theorem lc_imp {vs is : List Nat} {Wi : WA} {G : WG} {Wt : WT} {We : WE} (hs : ∀ i ∈ is, i ∈ vs) {tg : TG} {tt : TT} {tel : TE}
    (hg : ∀ (B' : Hp) (g' : Gh) v σ H Q, (∃ d env S g Q0, Rp X.mg X.wk B' g' g H σ env S ∧ Rep X.mg X.wk g H d v ∧ G d env S Q0 ∧ ∀ σ' H', But is σ σ' → GQ X B' g' g H Q0 σ' H' → Q σ' H') → tg v σ H Q)
    (ht : ∀ (B' : Hp) (g' : Gh) σ H Q, tT X B' g' Wt σ H Q → tt σ H Q) (he : ∀ (B' : Hp) (g' : Gh) σ H Q, tE X B' g' We σ H Q → tel σ H Q)
    {σ : L2.St} {H : Hp} {env : VEnv} {S : Sto} {g : Gh} {Q : T → VEnv → Sto → Prop} (R : Rp X.mg X.wk B g0 g H σ env S) (q : wLc vs Wi G Wt We env S Q) {Qf : VK} (kf : ∀ v H', VQ X B g0 g H σ Q v H' → Qf v H') :
    tLc (tI X B g0 Wi) tg tt tel vs σ H Qf := by
  refine ⟨env, S, g, _, R, q, fun J H1 g1 items env1 S1 st1 R1 jok q1 D hD => ?_⟩
  obtain ⟨⟨no, hlen⟩, q1⟩ := q1
  refine ⟨fun i m H' => m = items.length - i ∧ i ≤ items.length ∧ ∃ g' env' S' accD accV, Stp g1 H1 g' H' ∧ Rp X.mg X.wk B g0 g' H' (wipe σ vs) env' S' ∧ H' D = some (.lst accV) ∧ RepAll X.mg X.wk g' H' accD accV ∧ ¬ g'.F D ∧ D ∉ g'.ρ ∧ accD.length ≤ i ∧
    ¬ OwnAt (wipe σ vs) env' D ∧ lcW vs G Wt We (items.drop i) accD env' S' fun acc env2 S2 => Q (.own (.lst acc)) (rst env1 env2 vs) S2, ?_, ?_⟩
  · have hn := New.upd (o := HO.lst []) hD
    have R2 := (R1.new hn).wipe vs
    refine ⟨items.length, by simp, Nat.zero_le _, g1, wpE env1 vs, S1, [], [], hn.stp R1.sto.tr, R2, upd_same, .nil, R1.nF hD, R1.nρ hD, Nat.zero_le _, fun ⟨i, m, e, q⟩ => ?_, by simpa using q1⟩
    obtain ⟨h1, h2⟩ := wpE_some e
    rw [wipe_out h2] at q
    obtain ⟨a, k1, k2, _⟩ := R1.own i m h1
    rw [q] at k1; cases k1
    obtain ⟨o, k3, _⟩ := k2.there
    rw [hD] at k3; cases k3
  rintro i m H2 ⟨rfl, hi, g2, env2, S2, accD, accV, st2, R2, hDv, rAcc, nF, nρ, hal, nSl, q2⟩
  by_cases hlt : i < items.length
  · obtain ⟨hgo, hy⟩ := (jok g2 H2 st2.toFz R2.sto.tr i).1 _ (List.getElem?_eq_getElem hlt)
    refine .inr ⟨hgo, fun H' => i + 1 ≤ items.length ∧ ∃ g' env' S' accD accV, Stp g1 H1 g' H' ∧ Rp X.mg X.wk B g0 g' H' (wipe σ vs) env' S' ∧ H' D = some (.lst accV) ∧ RepAll X.mg X.wk g' H' accD accV ∧ ¬ g'.F D ∧ D ∉ g'.ρ ∧ accD.length ≤ i + 1 ∧
      ¬ OwnAt (wipe σ vs) env' D ∧ lcW vs G Wt We (items.drop (i + 1)) accD env' S' fun acc env2 S2 => Q (.own (.lst acc)) (rst env1 env2 vs) S2, fun H' q => ⟨items.length - (i + 1), by omega, rfl, q⟩, fun x H3 hyx => ?_⟩
    obtain ⟨hn, rx⟩ := hy x H3 hyx
    rw [List.drop_eq_getElem_cons hlt] at q2
    have st3 : Stp g2 H2 g2 H3 := hn.stp R2.sto.tr
    have R3 := R2.new hn
    have hD3 := hn D _ hDv
    -- the turn over another base
    have RB := R3.rebase
    refine hg (reB H3 (wipe σ vs) env2) g2 x _ H3 _ ⟨items[i], env2, S2, g2, _, RB, rx, q2, fun σ4 H4 but ⟨g4, env4, S4, st4, R4, q4⟩ => ?_⟩
    have wq : wipe σ4 vs = wipe σ vs := by
      have := wipe_but but hs
      rw [wipe_wipe] at this
      exact this
    refine ⟨wq, ht (reB H3 (wipe σ vs) env2) g2 σ4 H4 _ ⟨env4, S4, g4, _, R4, q4, fun b H5 ⟨g5, env5, S5, st5, R5, q5⟩ => ?_⟩⟩
    cases b with
    | false =>
      have q5 := q5.f
      obtain ⟨k1, k2, k3, k4⟩ := R5.apart hD3 nSl nF nρ
      have RU := (R3.unbase R5).wipe vs
      rw [wq] at RU
      have st25 := (st3.trans st4).trans st5
      refine ⟨hlt, g5, _, S5, accD, accV, st2.trans st25, RU, k1, (rAcc.mono st25.toFz), k3, k4, Nat.le_succ_of_le hal, fun ⟨j, m, e, qq⟩ => ?_, q5⟩
      obtain ⟨h1, h2⟩ := wpE_some e
      rw [← wq, wipe_out h2] at qq
      exact k2 ⟨j, m, h1, qq⟩
    | true =>
      have q5 := q5.t
      refine he (reB H3 (wipe σ vs) env2) g2 σ4 H5 _ ⟨env5, S5, g5, _, R5, q5, fun y H6 ⟨g6, t, env6, S6, st6, R6, rt, q6⟩ => ?_⟩
      obtain ⟨k1, k2, k3, k4⟩ := R6.apart hD3 nSl nF nρ
      obtain ⟨g7, st7, R7, rp⟩ := rt.hold R6
      obtain ⟨_, k2', k3', k4'⟩ := R7.apart hD3 nSl nF nρ
      have st27 := (((st3.trans st4).trans st5).trans st6).trans st7
      have RU := (R3.unbase R7).wipe vs
      rw [wq] at RU
      have nSl' : ¬ OwnAt (wipe σ vs) (wpE env6 vs) D := fun ⟨j, m, e, qq⟩ => by
        obtain ⟨h1, h2⟩ := wpE_some e
        rw [← wq, wipe_out h2] at qq
        exact k2' ⟨j, m, h1, qq⟩
      have zu : Fz g7 H6 g7 (upd H6 D (.lst (accV ++ [y]))) := Fz.upd k1 (fun _ q => nomatch q) k3'
      have RM := RU.mut (u := .lst (accV ++ [y])) k1 (fun _ q => nomatch q) k3' k4' (R1.bn hD) (fun j m e q => nSl' ⟨j, m, e, q⟩)
      have rAcc7 := rAcc.mono st27.toFz
      refine ⟨accV, k1, ?_, hlt, g7, _, S6, accD ++ [t.d], accV ++ [y], ?_, RM, upd_same, (rAcc7.append (.cons rp .nil)).mono zu, k3', k4', by rw [List.length_append]; exact Nat.succ_le_succ hal, nSl', q6⟩
      · rw [← rAcc.length]
        exact Nat.lt_of_le_of_lt hal (Nat.lt_of_lt_of_le hlt (Nat.le_trans hlen (by decide)))
      · have st17 := st2.trans st27
        refine ⟨st17.toFz.trans zu, fun a o e ha => ?_, st17.rN⟩
        have na : a ≠ D := fun q => by rw [q, hD] at e; cases e
        rw [upd_ne na]
        exact st17.oth a o e ha
  · refine .inl ⟨(jok g2 H2 st2.toFz R2.sto.tr i).2 (by omega), ?_⟩
    rw [List.drop_eq_nil_of_le (by omega)] at q2
    refine kf _ _ ⟨g2, .own (.lst accD), _, S2, st1.trans st2, R1.block no R2 st2.toFz, ⟨D, rfl, ⟨accV, hDv, rAcc⟩, R1.bn hD, nF, nρ, fun j m' e q => ?_⟩, q2⟩
    rcases rst_some e with ⟨h1, h2⟩ | ⟨h1, h2⟩
    · exact noOwn_at no h1 h2
    · exact nSl ⟨j, m', h2, by rw [wipe_out h1]; exact q⟩
/-- the block's parts, at any state, over any base -/
structure Blk (X : Cx) (scope : Scope) (is : List Nat) (tg elt : Expr) (ifs : List Expr) (G : WG) (Wt : WT) (We : WE) : Prop where
  g : ∀ (s : Shared) (H : Hp) (C : Addr) (cl : List (Str × Addr)) (fp : List Addr) (B' : Hp) (g' : Gh), VG (X.blk s H scope (compEnvC scope cl C X.env) fp) B' g' is tg G
  t : ∀ (s : Shared) (H : Hp) (C : Addr) (cl : List (Str × Addr)) (fp : List Addr) (B' : Hp) (g' : Gh), VTs (X.blk s H scope (compEnvC scope cl C X.env) fp) B' g' ifs Wt
  e : ∀ (s : Shared) (H : Hp) (C : Addr) (cl : List (Str × Addr)) (fp : List Addr) (B' : Hp) (g' : Gh), VE (X.blk s H scope (compEnvC scope cl C X.env) fp) B' g' elt We
/-- for every base at once -/
def tGu (X : Cx) (is : List Nat) (G : WG) : TG := fun v σ H Q => ∃ B' g', ∃ d env S g Q0, Rp X.mg X.wk B' g' g H σ env S ∧ Rep X.mg X.wk g H d v ∧ G d env S Q0 ∧ ∀ σ' H', But is σ σ' → GQ X B' g' g H Q0 σ' H' → Q σ' H'
def tTu (X : Cx) (W : WT) : TT := fun σ H Q => ∃ B' g', tT X B' g' W σ H Q
def tEu (X : Cx) (W : WE) : TE := fun σ H Q => ∃ B' g', tE X B' g' W σ H Q
theorem Blk.pg {is : List Nat} {G : WG} {Wt : WT} {We : WE} (b : Blk X scope is tg elt ifs G Wt We) (s : Shared) (H : Hp) (C : Addr) (cl : List (Str × Addr)) (fp : List Addr) : PG (X.blk s H scope (compEnvC scope cl C X.env) fp) tg (tGu X is G) :=
  ⟨fun pins s' σ H' v u Q I r ⟨B', g', h⟩ => (b.g s H C cl fp B' g').pg.run pins s' σ H' v u Q I r h⟩
theorem Blk.pt {is : List Nat} {G : WG} {Wt : WT} {We : WE} (b : Blk X scope is tg elt ifs G Wt We) (s : Shared) (H : Hp) (C : Addr) (cl : List (Str × Addr)) (fp : List Addr) : PTs (X.blk s H scope (compEnvC scope cl C X.env) fp) ifs (tTu X Wt) :=
  ⟨fun pins s' σ H' Q I ⟨B', g', h⟩ => (b.t s H C cl fp B' g').pts.run pins s' σ H' Q I h⟩
theorem Blk.pe {is : List Nat} {G : WG} {Wt : WT} {We : WE} (b : Blk X scope is tg elt ifs G Wt We) (s : Shared) (H : Hp) (C : Addr) (cl : List (Str × Addr)) (fp : List Addr) : PE (X.blk s H scope (compEnvC scope cl C X.env) fp) elt (tEu X We) :=
  ⟨fun pins s' σ H' Q I ⟨B', g', h⟩ => (b.e s H C cl fp B' g').pe.run pins s' σ H' Q I h⟩
theorem Blk.monos {is : List Nat} {G : WG} {Wt : WT} {We : WE} (b : Blk X scope is tg elt ifs G Wt We) : (∀ d env S (Q Q' : WEnd), (∀ e s, Q e s → Q' e s) → G d env S Q → G d env S Q') ∧ Mo Wt ∧ Mo We :=
  ⟨(b.g X.s_0 X.H_0 X.env.locals [] [] X.H_0 ⟨fun _ => False, []⟩).mono, (b.t X.s_0 X.H_0 X.env.locals [] [] X.H_0 ⟨fun _ => False, []⟩).mono, (b.e X.s_0 X.H_0 X.env.locals [] [] X.H_0 ⟨fun _ => False, []⟩).mono⟩
theorem ve_lc {is : List Nat} {Wi : WA} {G : WG} {Wt : WT} {We : WE} (hc : X.calm = true) (hN : X.N.Nodup) (hi : VI X B g0 tg iter Wi) (ok : blkC X.N X.env.scope scope own = true) (b : Blk X scope is tg elt ifs G Wt We) (hv : ∀ i ∈ is, i ∈ own.map (·.2))
    (hs : ∀ x, foldedSetIterable iter X.env x = pure x := by intro _; rfl) : VE X B g0 (.ListComp elt [⟨tg, iter, ifs, 0⟩] scope pos) (wLc (own.map (·.2)) Wi G Wt We) := by
  obtain ⟨m1, m2, m3⟩ := b.monos
  refine VE.of (wLc_mono hi.mono m1 m2 m3) (pe_lc (own := own) hc hN hi.pi (blkOk_by ok) b.pg b.pt b.pe hs) fun σ H env S g Q R q => ?_
  exact lc_imp hv (fun B' g' v σ H Q h => ⟨B', g', h⟩) (fun B' g' σ H Q h => ⟨B', g', h⟩) (fun B' g' σ H Q h => ⟨B', g', h⟩) R q fun _ _ h => h
/-- y = [..] -/
theorem vs_setLc {i : Nat} {y : Str} {py spos : Pos} {is : List Nat} {Wi : WA} {G : WG} {Wt : WT} {We : WE} (hc : X.calm = true) (hN : X.N.Nodup) (hy : X.N[i]? = some y) (hyl : X.env.scope.names.lookup y = some .local)
    (hsw : swapsWith (.ListComp elt [⟨tg, iter, ifs, 0⟩] scope pos) (some (.Name y py)) spos.line X.env = pure true) (hi : VI X B g0 tg iter Wi) (ok : blkC X.N X.env.scope scope own = true) (b : Blk X scope is tg elt ifs G Wt We) (hv : ∀ i ∈ is, i ∈ own.map (·.2))
    (hs : ∀ x, foldedSetIterable iter X.env x = pure x := by intro _; rfl) : VS X B g0 (.Assign [.Name y py] (.ListComp elt [⟨tg, iter, ifs, 0⟩] scope pos) spos) (wSet i (wLc (own.map (·.2)) Wi G Wt We)) := by
  obtain ⟨m1, m2, m3⟩ := b.monos
  refine VS.of (fun _ _ _ _ k q => wLc_mono hi.mono m1 m2 m3 _ _ _ _ (fun _ _ _ => k.nx _ _) q) (ps_setLc (own := own) hc hN hy hyl hsw hi.pi (blkOk_by ok) b.pg b.pt b.pe hs) fun σ H env S g De R q => ?_
  exact lc_imp (X := X) (B := B) (g0 := g0) hv (tg := tGu X is G) (tt := tTu X Wt) (tel := tEu X We) (fun B' g' v σ H Q h => ⟨B', g', h⟩) (fun B' g' σ H Q h => ⟨B', g', h⟩) (fun B' g' σ H Q h => ⟨B', g', h⟩) R q fun v H' ⟨g', t, env', S', st, R', rt, q⟩ =>
    ⟨g', _, S', st.toFz, R'.putOwn i rt, q⟩
end
end VC

set_option Elab.async false
set_option linter.all false
set_option maxRecDepth 100000
set_option maxHeartbeats 4000000
/-! VM: subscripts, slices, lists that change, built-ins. -/
namespace VC
open PySem PySem.Spec PyProof.Rows L2

/-! ### items -/
def nthD : List D → Nat → Option D
  | [], _ => none
  | d :: _, 0 => some d
  | _ :: ds, n + 1 => nthD ds n
theorem nthD_eq : ∀ (ds : List D) (n : Nat), nthD ds n = ds[n]?
  | [], _ => rfl
  | _ :: _, 0 => rfl
  | _ :: ds, n + 1 => by rw [nthD, nthD_eq ds n]; simp
def atD (ds : List D) : Int → Option D
  | .ofNat n => nthD ds n
  | .negSucc n => if n < ds.length then nthD ds (ds.length - (n + 1)) else none
def placeD (n : Nat) : Int → Option Nat
  | .ofNat k => if k < n then some k else none
  | .negSucc k => if k < n then some (n - (k + 1)) else none
theorem placeD_ix {n : Nat} {i : Int} {j : Nat} (h : placeD n i = some j) : ixN n i = some j := by
  unfold ixN
  cases i with
  | ofNat k =>
    simp only [placeD] at h
    split at h
    · cases h
      show (if (0 : Int) ≤ (j : Int) then (if (j : Int) < (n : Int) then some ((j : Int).toNat) else none) else _) = some j
      rw [if_pos (by omega), if_pos (by omega)]; rfl
    · cases h
  | negSucc k =>
    simp only [placeD] at h
    split at h
    · cases h
      have e : ¬ (0 : Int) ≤ Int.negSucc k := by omega
      rw [if_neg e, if_pos (by omega)]
      congr 1; omega
    · cases h
theorem atD_place {ds : List D} {i : Int} {d : D} (h : atD ds i = some d) : ∃ j, placeD ds.length i = some j ∧ ds[j]? = some d := by
  cases i with
  | ofNat k =>
    simp only [atD] at h
    rw [nthD_eq] at h
    refine ⟨k, ?_, h⟩
    simp only [placeD]
    rw [if_pos (List.getElem?_eq_some_iff.mp h).1]
  | negSucc k =>
    simp only [atD] at h
    split at h
    · rename_i hk
      rw [nthD_eq] at h
      exact ⟨_, by simp only [placeD]; rw [if_pos hk], h⟩
    · cases h
theorem RepAll.at {mg : Str → Option Value} {w : WK} {g : Gh} {H : Hp} {ds : List D} {vs : List V} {i : Int} {d : D} (r : RepAll mg w g H ds vs) (h : atD ds i = some d) : ∃ v, atI vs i = some v ∧ Rep mg w g H d v := by
  obtain ⟨j, h1, h2⟩ := atD_place h
  obtain ⟨v, h3, h4⟩ := r.get h2
  refine ⟨v, ?_, h4⟩
  unfold atI
  rw [← r.length, placeD_ix h1]
  exact h3
def opIx : O2
  | .tup ds, .int i, K => match atD ds i with | some d => K (.val d) | none => False
  | .lst ds, .int i, K => match atD ds i with | some d => K (.val d) | none => False
  | _, _, _ => False
theorem opIx_mono : Mo2 opIx := fun d e K K' i q => by
  unfold opIx at q ⊢
  split at q
  · split at q <;> first | exact i _ q | exact q
  · split at q <;> first | exact i _ q | exact q
  · exact q
section
variable {X : Cx}
theorem o_ixSeq : Ix2 X opIx := by
  refine ⟨opIx_mono, fun value slice pins s σ H x y v u Q I rx ry ⟨g, d, e, K, tr, c1, c2, q, k⟩ hs => ?_⟩
  unfold opIx at q
  split at q
  · obtain ⟨a, vs, rfl, h1, h2⟩ := c1.tup
    rw [c2.int] at ry
    split at q
    · rename_i d' hd
      obtain ⟨z, hz, rz⟩ := h2.at hd
      exact ix_tup value slice pins s σ H _ _ v u Q I rx ry ⟨a, vs, _, z, rfl, rfl, SqT.at h1, hz, k _ _ (rk_rep rz q)⟩ hs
    · exact q.elim
  · obtain ⟨a, vs, rfl, h1, h2⟩ := c1.lst
    rw [c2.int] at ry
    split at q
    · rename_i d' hd
      obtain ⟨z, hz, rz⟩ := h2.at hd
      exact ix_list value slice pins s σ H _ _ v u Q I rx ry ⟨a, vs, _, z, rfl, rfl, .inl h1, hz, k _ _ (rk_rep rz q)⟩ hs
    · exact q.elim
  · exact q.elim

/-! ### slices -/
def cutD (ds : List D) (lo hi : Option Int) : List D := (ds.drop (HT.sIx ds.length 0 lo)).take (HT.sIx ds.length ds.length hi - HT.sIx ds.length 0 lo)
theorem RepAll.cut {mg : Str → Option Value} {w : WK} {g : Gh} {H : Hp} {ds : List D} {vs : List V} (r : RepAll mg w g H ds vs) (lo hi : Option Int) : RepAll mg w g H (cutD ds lo hi) (cutV vs lo hi) := by
  unfold cutD cutV
  rw [r.length]
  exact (r.drop _).take _
variable {B : Hp} {g0 : Gh} {e a b : Expr} {es : List Expr} {pos p2 : Pos}
abbrev WPt := WX (Option Int)
def PQ (X : Cx) (B : Hp) (g0 : Gh) (g : Gh) (H : Hp) (σ : L2.St) (Q : Option Int → VEnv → Sto → Prop) : Option Int → Hp → Prop := fun b H' => ∃ g' env' S', Stp g H g' H' ∧ Rp X.mg X.wk B g0 g' H' σ env' S' ∧ Q b env' S'
structure VP (X : Cx) (B : Hp) (g0 : Gh) (e : Option Expr) (W : WPt) : Prop where
  mono : Mo W
  po : PO X e fun σ H Q => ∃ env S g Q0, Rp X.mg X.wk B g0 g H σ env S ∧ W env S Q0 ∧ ∀ b H', PQ X B g0 g H σ Q0 b H' → Q b H'
def pN : WPt := fun env S Q => Q none env S
def pS (W : WE) : WPt := fun env S Q => W env S fun t env' S' => match t with | .val (.int i) => Q (some i) env' S' | _ => False
theorem vp_none : VP X B g0 none pN := ⟨fun _ _ _ _ i q => i _ _ _ q, ⟨fun pins s σ H Q I ⟨env, S, g, Q0, R, q, k⟩ => po_none.run pins s σ H Q I (k _ _ ⟨g, env, S, Stp.refl g H, R, q⟩)⟩⟩
theorem vp_some {W : WE} (h : VE X B g0 e W) : VP X B g0 (some e) (pS W) := by
  refine ⟨fun _ _ _ _ i q => h.mono _ _ _ _ (fun t _ _ q => ?_) q, ⟨fun pins s σ H Q I ⟨env, S, g, Q0, R, q, k⟩ => (po_some h.pe).run pins s σ H Q I ⟨env, S, g, _, R, q, fun v H' ⟨g1, t, env1, S1, st, R1, rt, q1⟩ => ?_⟩⟩⟩
  · split at q <;> first | exact i _ _ _ q | exact q
  · dsimp only at q1
    split at q1
    · cases rt; exact ⟨_, rfl, k _ _ ⟨g1, env1, S1, st, R1, q1⟩⟩
    · exact q1.elim
def opSl (lo hi : Option Int) : O1
  | .tup ds, K => K (.val (.tup (cutD ds lo hi)))
  | .lst ds, K => K (.own (.lst (cutD ds lo hi)))
  | _, _ => False
theorem opSl_mono (lo hi : Option Int) : Mo1 (opSl lo hi) := fun d K K' i q => by
  unfold opSl at q ⊢
  split at q <;> first | exact i _ q | exact q
def wSl (Wo : WO) (Wl Wh : WPt) : WE := fun env S Q => Wo env S fun d env1 S1 => Wl env1 S1 fun lo env2 S2 => Wh env2 S2 fun hi env3 S3 => opSl lo hi (dr S3 d) fun t => Q t env3 S3
def rSlB (K : PySem.W.Frag) : V → Option Int → Option Int → Hp → VK → Prop := fun x lo hi H Q => rSlA K x lo hi H Q ∨ rSlL K x lo hi H Q
theorem cutD_all {ds : List D} {lo hi : Option Int} (h : HT.sIx ds.length 0 lo = 0 ∧ HT.sIx ds.length ds.length hi = ds.length) : cutD ds lo hi = ds := by
  unfold cutD
  rw [h.1, h.2]; simp
theorem ve_slice {lo hi : Option Expr} {Wo : WO} {Wl Wh : WPt} (h : VO X B g0 e Wo) (hl : VP X B g0 lo Wl) (hh : VP X B g0 hi Wh) : VE X B g0 (.Subscript e (.Slice lo hi none p2) pos) (wSl Wo Wl Wh) := by
  refine VE.of (fun _ _ _ _ i q => h.mono _ _ _ _ (fun _ _ _ q => hl.mono _ _ _ _ (fun _ _ _ q => hh.mono _ _ _ _ (fun _ _ _ q => opSl_mono _ _ _ _ _ (fun _ q => i _ _ _ q) q) q) q) q) (pe_slice (SlR.or sl_tupA sl_list) h.pe hl.po hh.po) fun σ H env S g Q R q => ?_
  refine ⟨env, S, g, _, R, q, fun x H1 ⟨g1, d, env1, S1, st1, R1, t1, q1⟩ => ⟨env1, S1, g1, _, R1, q1, fun lo H2 ⟨g2, env2, S2, st2, R2, q2⟩ => ⟨env2, S2, g2, _, R2, q2, fun hi H3 ⟨g3, env3, S3, st3, R3, q3⟩ => ?_⟩⟩⟩
  have c := ((t1.stp st2).stp st3).cont R3.sto
  have st13 := (st1.trans st2).trans st3
  dsimp only at q3
  unfold opSl at q3
  split at q3
  · rename_i ds hds
    rw [hds] at c
    obtain ⟨a, vs, rfl, h1, h2⟩ := c.tup
    refine .inl ⟨a, vs, rfl, SqT.at h1, fun hw => ?_, fun _ p hp => ?_⟩
    · rw [cutD_all (by rw [h2.length]; exact hw)] at q3
      exact ⟨g3, .val (.tup ds), env3, S3, st13, R3, Rep.tup h1 h2, q3⟩
    · have hn := New.upd (o := HO.tup (cutV vs lo hi)) hp
      exact ⟨g3, .val (.tup (cutD ds lo hi)), env3, S3, st13.trans (hn.stp R3.sto.tr), R3.new hn, Rep.tup upd_same ((h2.cut lo hi).mono (Fz.new hn R3.sto.tr)), q3⟩
  · rename_i ds hds
    rw [hds] at c
    obtain ⟨a, vs, rfl, h1, h2⟩ := c.lst
    refine .inr ⟨a, vs, rfl, .inl h1, fun p hp => ?_⟩
    have hn := New.upd (o := HO.lst (cutV vs lo hi)) hp
    exact ⟨g3, .own (.lst (cutD ds lo hi)), env3, S3, st13.trans (hn.stp R3.sto.tr), R3.new hn, R3.rt hn ⟨p, rfl, ⟨_, upd_same, (h2.cut lo hi).mono (Fz.new hn R3.sto.tr)⟩, hp⟩, q3⟩
  · exact q3.elim

/-! ### objects that change -/
/-- a slot's own object is changed -/
theorem Rp.mutOwn {mg : Str → Option Value} {w : WK} {g : Gh} {H : Hp} {σ : L2.St} {env : VEnv} {S : Sto} {i : Nat} {m m' : M} {p : Addr} {u : HO} (R : Rp mg w B g0 g H σ env S) (e : env[i]? = some (some (T.own m))) (hs : σ[i]? = some (some (V.ref p)))
    (r : RepM mg w g (upd H p u) m' p) : Rp mg w B g0 g (upd H p u) σ (env.set i (some (T.own m'))) S ∧ Fz g H g (upd H p u) := by
  have hi : i < env.length := (List.getElem?_eq_some_iff.mp e).1
  obtain ⟨p', k1, k2, k3, k4, k5⟩ := R.own i m e
  rw [hs] at k1; cases k1
  obtain ⟨o, ho, ht⟩ := k2.there
  have z : Fz g H g (upd H p u) := Fz.upd ho ht k4
  have R1 := R.drop i
  have RM := R1.mut (u := u) ho ht k4 k5 k3 (fun j m2 q1 q2 => by
    by_cases hj : i = j
    · subst hj; rw [List.getElem?_set_self hi] at q1; cases q1
    · rw [List.getElem?_set_ne hj] at q1
      exact hj (R.inj _ _ _ _ _ e q1 hs q2))
  refine ⟨?_, z⟩
  have RT' : RT mg w B g (upd H p u) σ (env.set i none) (.own m') (.ref p) := ⟨p, rfl, r, k3, k4, k5, fun j m2 q1 q2 => by
    by_cases hj : i = j
    · subst hj; rw [List.getElem?_set_self hi] at q1; cases q1
    · rw [List.getElem?_set_ne hj] at q1
      exact hj (R.inj _ _ _ _ _ e q1 hs q2)⟩
  have RP := RM.putOwn i RT'
  rw [List.set_set] at RP
  have es : σ.set i (some (V.ref p)) = σ := by
    apply List.ext_getElem?
    intro j
    by_cases hj : i = j
    · subst hj; rw [List.getElem?_set_self (List.getElem?_eq_some_iff.mp hs).1, hs]
    · rw [List.getElem?_set_ne hj]
  rw [es] at RP
  exact RP
/-- a store's object is changed -/
theorem Rp.mutSto {mg : Str → Option Value} {w : WK} {g : Gh} {H : Hp} {σ : L2.St} {env : VEnv} {S : Sto} {k : Nat} {m m' : M} {p : Addr} {u : HO} (R : Rp mg w B g0 g H σ env S) (e : S[k]? = some m) (hs : g.ρ[k]? = some p)
    (r : RepM mg w g (upd H p u) m' p) : Rp mg w B g0 g (upd H p u) σ env (S.set k m') ∧ Fz g H g (upd H p u) := by
  have hk : k < S.length := (List.getElem?_eq_some_iff.mp e).1
  have hm := List.mem_of_getElem? hs
  have k2 := R.sto.at_ k p m hs e
  obtain ⟨o, ho, ht⟩ := k2.there
  have nF := R.sto.nF p hm
  have z : Fz g H g (upd H p u) := Fz.upd ho ht nF
  have so : StoOk mg w g (upd H p u) (S.set k m') := by
    refine ⟨by rw [List.length_set]; exact R.sto.len, R.sto.nd, fun j a m2 h1 h2 => ?_, R.sto.nF, fun a hF => ?_⟩
    · by_cases hj : k = j
      · subst hj
        rw [List.getElem?_set_self hk] at h2; cases h2
        rw [hs] at h1; cases h1
        exact r
      · rw [List.getElem?_set_ne hj] at h2
        have na : a ≠ p := fun q => by
          subst q
          obtain ⟨l1, e1⟩ := List.getElem?_eq_some_iff.mp h1
          obtain ⟨l2, e2⟩ := List.getElem?_eq_some_iff.mp hs
          exact hj ((List.getElem_inj R.sto.nd).mp (e2.trans e1.symm))
        exact (R.sto.at_ j a m2 h1 h2).mono z (upd_ne na)
    · have na : a ≠ p := fun q => nF (by rw [← q]; exact hF)
      rw [upd_ne na]; exact R.sto.tr a hF
  refine ⟨⟨so, R.len, fun i d q => ?_, fun i m2 q => ?_, R.inj, ⟨R.base.toFz.trans z, fun a o' q ha => ?_, R.base.rN⟩, R.fN, R.noTup⟩, z⟩
  · obtain ⟨v, h1, h2⟩ := R.val i d q
    exact ⟨v, h1, h2.mono z⟩
  · obtain ⟨a, h1, h2, h3, h4, h5⟩ := R.own i m2 q
    exact ⟨a, h1, h2.mono z (upd_ne fun q => h5 (by rw [q]; exact hm)), h3, h4, h5⟩
  · have na : a ≠ p := fun q' => by
      subst q'
      rcases R.base.rN a hm with y | y
      · exact ha y
      · rw [q] at y; cases y
    rw [upd_ne na]
    exact R.base.oth a o' q ha
/-- a fresh object becomes the store's -/
theorem Rp.pub {mg : Str → Option Value} {w : WK} {g : Gh} {H : Hp} {σ : L2.St} {env : VEnv} {S : Sto} {m : M} {v : V} (R : Rp mg w B g0 g H σ env S) (r : RT mg w B g H σ env (.own m) v) :
    ∃ g', Fz g H g' H ∧ Rp mg w B g0 g' H σ env (S ++ [m]) ∧ Rep mg w g' H (.ref S.length) v := by
  obtain ⟨a, rfl, r1, r2, r3, r4, r5⟩ := r
  have z : Fz g H ⟨g.F, g.ρ ++ [a]⟩ H := ⟨fun _ _ h => h, fun _ _ => rfl, fun _ h => h, ⟨[a], rfl⟩⟩
  refine ⟨⟨g.F, g.ρ ++ [a]⟩, z, ?_, .ref (by show (g.ρ ++ [a])[S.length]? = some a; rw [← R.sto.len]; simp)⟩
  have so : StoOk mg w ⟨g.F, g.ρ ++ [a]⟩ H (S ++ [m]) := by
    refine ⟨by simp [R.sto.len], ?_, fun k b m2 h1 h2 => ?_, fun b hb => ?_, R.sto.tr⟩
    · show (g.ρ ++ [a]).Nodup
      rw [List.nodup_append]
      exact ⟨R.sto.nd, by simp, fun x hx y hy q => r4 (by simp at hy; rw [← hy, ← q]; exact hx)⟩
    · have h1 : (g.ρ ++ [a])[k]? = some b := h1
      by_cases hk : k < g.ρ.length
      · rw [List.getElem?_append_left hk] at h1
        rw [List.getElem?_append_left (by rw [← R.sto.len]; exact hk)] at h2
        exact (R.sto.at_ k b m2 h1 h2).mono z rfl
      · rw [List.getElem?_append_right (by omega)] at h1
        rw [List.getElem?_append_right (by rw [← R.sto.len]; omega)] at h2
        have e0 : k - g.ρ.length = 0 := by
          have := (List.getElem?_eq_some_iff.mp h1).1
          simpa using this
        rw [e0] at h1
        rw [← R.sto.len, e0] at h2
        cases h1; cases h2
        exact r1.mono z rfl
    · rcases List.mem_append.mp hb with q | q
      · exact R.sto.nF b q
      · rw [List.mem_singleton.mp q]; exact r3
  refine ⟨so, R.len, fun i d q => ?_, fun i m2 q => ?_, R.inj, ⟨R.base.toFz.trans z, R.base.oth, fun b hb => ?_⟩, R.fN, fun b hb => ?_⟩
  · obtain ⟨v, h1, h2⟩ := R.val i d q
    exact ⟨v, h1, h2.mono z⟩
  · obtain ⟨b, h1, h2, h3, h4, h5⟩ := R.own i m2 q
    refine ⟨b, h1, h2.mono z rfl, h3, h4, fun hb => ?_⟩
    rcases List.mem_append.mp hb with y | y
    · exact h5 y
    · rw [List.mem_singleton.mp y] at h1; exact r5 i m2 q h1
  · rcases List.mem_append.mp hb with q | q
    · exact R.base.rN b q
    · rw [List.mem_singleton.mp q]; exact .inr r2
  · rcases List.mem_append.mp hb with q | q
    · exact R.noTup b q
    · rw [List.mem_singleton.mp q, r2]; exact fun _ q => nomatch q
/-- x = e, e a fresh object that goes to the store -/
def wPub (i : Nat) (We : WE) : WS := fun D env S => We env S fun t env' S' => match t with
  | .own m => D.nx (env'.set i (some (.val (.ref S'.length)))) (S' ++ [m])
  | _ => False
theorem vs_pub {i : Nat} {x : Str} {pos' : Pos} {We : WE} (h : VE X B g0 e We) (hp : ∀ te, PE X e te → PS X (.Assign [.Name x pos'] e pos) (tAsg te (gName i))) : VS X B g0 (.Assign [.Name x pos'] e pos) (wPub i We) := by
  refine VS.of (fun _ _ _ _ k q => h.mono _ _ _ _ (fun t _ _ q => ?_) q) (hp _ h.pe) fun σ H env S g De R q => ⟨env, S, g, _, R, q, fun v H' ⟨g', t, env', S', st, R', rt, q⟩ => ?_⟩
  · split at q <;> first | exact k.nx _ _ q | exact q
  · dsimp only at q
    split at q
    · obtain ⟨g2, z2, R2, r2⟩ := R'.pub rt
      exact ⟨g2, _, _, st.toFz.trans z2, R2.put i r2, q⟩
    · exact q.elim
/-- x[k] = e, x a name: its own list, or the store's -/
def setD (ds : List D) (i : Int) (d : D) (K : List D → Prop) : Prop := match placeD ds.length i with
  | some j => K (ds.set j d)
  | none => False
def wSetIt (i : Nat) (We : WE) (Wk : WO) : WS := fun D env S => We env S fun t env1 S1 => match slot env1 i with
  | some (.own (.lst ds)) => Wk env1 S1 fun k env2 S2 => match k with
    | .int j => (slot env2 i = some (.own (.lst ds))) ∧ setD ds j t.d fun ds' => D.nx (env2.set i (some (.own (.lst ds')))) S2
    | _ => False
  | some (.val (.ref r)) => Wk env1 S1 fun k env2 S2 => match k, S2[r]? with
    | .int j, some (.lst ds) => setD ds j t.d fun ds' => D.nx env2 (S2.set r (.lst ds'))
    | _, _ => False
  | _ => False
theorem setD_mono {ds : List D} {i : Int} {d : D} {K K' : List D → Prop} (k : ∀ x, K x → K' x) (q : setD ds i d K) : setD ds i d K' := by
  unfold setD at q ⊢
  split at q <;> first | exact k _ q | exact q
end
end VC

set_option Elab.async false
set_option linter.all false
set_option maxRecDepth 100000
set_option maxHeartbeats 4000000
/-! VN: append, built-ins. -/
namespace VC
open PySem PySem.Spec PyProof.Rows L2
section
variable {X : Cx} {B : Hp} {g0 : Gh} {e a b o : Expr} {es : List Expr} {pos apos : Pos}
/-- x.append(e), x a name: its own list -/
def wApp (i : Nat) (We : WE) : WS := fun D env S => match slot env i with
  | some (.own (.lst _)) => We env S fun t env1 S1 => match slot env1 i with
    | some (.own (.lst ds)) => ds.length < 1000000 ∧ D.nx (env1.set i (some (.own (.lst (ds ++ [t.d]))))) S1
    | _ => False
  | _ => False
/-! ### built-ins -/
theorem ContAll.one {mg : Str → Option Value} {w : WK} {g : Gh} {H : Hp} {d : D} {vs : List V} (h : ContAll mg w g H [d] vs) : ∃ v, vs = [v] ∧ Cont mg w g H d v := by
  cases h with
  | cons h t => cases t; exact ⟨_, rfl, h⟩
theorem ContAll.two {mg : Str → Option Value} {w : WK} {g : Gh} {H : Hp} {d e : D} {vs : List V} (h : ContAll mg w g H [d, e] vs) : ∃ v u, vs = [v, u] ∧ Cont mg w g H d v ∧ Cont mg w g H e u := by
  cases h with
  | cons h t => cases t with | cons h' t => cases t; exact ⟨_, _, rfl, h, h'⟩
def opLen : ON
  | [.tup ds], K => K (.val (.int (ds.length : Int)))
  | [.lst ds], K => K (.val (.int (ds.length : Int)))
  | [.str x], K => x.length ≤ sizeLine ∧ K (.val (.int (x.length : Int)))
  | _, _ => False
theorem n_len : OpN X (.builtin "len") opLen := by
  refine ⟨fun ds K K' i q => ?_, fun pins s σ H g ds vs us K I tr c r q => ?_⟩
  · unfold opLen at q ⊢
    split at q <;> first | exact i _ q | exact ⟨q.1, i _ q.2⟩ | exact q
  · unfold opLen at q
    split at q
    · obtain ⟨v, rfl, c1⟩ := c.one
      obtain ⟨a, vs, rfl, h1, h2⟩ := c1.tup
      exact call_len pins s σ H _ us _ I r ⟨_, vs.length, rfl, .inr ⟨vs, SqT.at h1, rfl⟩, by rw [← h2.length]; exact rk_int q⟩
    · obtain ⟨v, rfl, c1⟩ := c.one
      obtain ⟨a, vs, rfl, h1, h2⟩ := c1.lst
      exact call_len pins s σ H _ us _ I r ⟨_, vs.length, rfl, .inl ⟨vs, .inl h1, rfl⟩, by rw [← h2.length]; exact rk_int q⟩
    · obtain ⟨v, rfl, c1⟩ := c.one
      rw [c1.str] at r
      exact call_len pins s σ H _ us _ I r ⟨_, _, rfl, ⟨q.1, rfl⟩, rk_int q.2⟩
    · exact q.elim
def opMin2 : ON
  | [.int i, .int j], K => K (.val (.int (if j < i then j else i)))
  | _, _ => False
def opMax2 : ON
  | [.int i, .int j], K => K (.val (.int (if j > i then j else i)))
  | _, _ => False
theorem n_min2 (hc : X.calm = true) : OpN X (.builtin "min") opMin2 := by
  refine ⟨fun ds K K' i q => ?_, fun pins s σ H g ds vs us K I tr c r q => ?_⟩
  · unfold opMin2 at q ⊢
    split at q <;> first | exact i _ q | exact q
  · unfold opMin2 at q
    split at q
    · obtain ⟨v, u, rfl, c1, c2⟩ := c.two
      rw [c1.int, c2.int] at r
      exact call_min2 hc pins s σ H _ us _ I r ⟨_, _, rfl, rk_int q⟩
    · exact q.elim
def opInt1 : ON
  | [.int i], K => K (.val (.int i))
  | [.bl k], K => K (.val (.int (if k then 1 else 0)))
  | _, _ => False
theorem n_int1 : OpN X (.type "int") opInt1 := by
  refine ⟨fun ds K K' i q => ?_, fun pins s σ H g ds vs us K I tr c r q => ?_⟩
  · unfold opInt1 at q ⊢
    split at q <;> first | exact i _ q | exact q
  · unfold opInt1 at q
    split at q
    · obtain ⟨v, rfl, c1⟩ := c.one
      rw [c1.int] at r
      exact call_int1 pins s σ H _ us _ I r (.inl ⟨_, rfl, rk_int q⟩)
    · obtain ⟨v, rfl, c1⟩ := c.one
      rw [c1.bl] at r
      exact call_int1 pins s σ H _ us _ I r (.inr ⟨_, rfl, rk_int q⟩)
    · exact q.elim
def opTuple : ON
  | [.lst ds], K => K (.val (.tup ds))
  | [.tup ds], K => K (.val (.tup ds))
  | _, _ => False
theorem n_tuple : OpN X (.type "tuple") opTuple := by
  refine ⟨fun ds K K' i q => ?_, fun pins s σ H g ds vs us K I tr c r q => ?_⟩
  · unfold opTuple at q ⊢
    split at q <;> first | exact i _ q | exact q
  · unfold opTuple at q
    split at q
    · obtain ⟨v, rfl, c1⟩ := c.one
      obtain ⟨a, vs, rfl, h1, h2⟩ := c1.lst
      exact call_tuple_of pins s σ H _ us _ I r ⟨a, vs, rfl, .inl ⟨.inl h1, fun l hl => rk_tup tr h2 hl q⟩⟩
    · obtain ⟨v, rfl, c1⟩ := c.one
      obtain ⟨a, vs, rfl, h1, h2⟩ := c1.tup
      exact call_tuple_of pins s σ H _ us _ I r ⟨a, vs, rfl, .inr ⟨SqT.at h1, rk_rep (.tup h1 h2) q⟩⟩
    · exact q.elim
def opList : ON
  | [.lst ds], K => K (.own (.lst ds))
  | [.tup ds], K => K (.own (.lst ds))
  | _, _ => False
/-- lists of ints, of truth values -/
def intsD : List D → Option (List Int)
  | [] => some []
  | .int i :: ds => (intsD ds).map (i :: ·)
  | _ :: _ => none
def blsD : List D → Option (List Bool)
  | [] => some []
  | .bl i :: ds => (blsD ds).map (i :: ·)
  | _ :: _ => none
theorem intsD_rep {mg : Str → Option Value} {w : WK} {g : Gh} {H : Hp} : ∀ {ds : List D} {ns : List Int} {vs : List V}, intsD ds = some ns → RepAll mg w g H ds vs → vs = ns.map V.int
  | [], ns, vs, h, r => by cases r; cases h; rfl
  | d :: ds, ns, _, h, r => by
    cases r with
    | @cons _ v _ vs r1 r2 =>
      cases d with
      | int i =>
        simp only [intsD, Option.map_eq_some_iff] at h
        obtain ⟨ms, h1, h2⟩ := h
        subst h2
        cases r1
        rw [intsD_rep h1 r2]; rfl
      | _ => simp [intsD] at h
theorem blsD_rep {mg : Str → Option Value} {w : WK} {g : Gh} {H : Hp} : ∀ {ds : List D} {ns : List Bool} {vs : List V}, blsD ds = some ns → RepAll mg w g H ds vs → vs = ns.map V.bl
  | [], ns, vs, h, r => by cases r; cases h; rfl
  | d :: ds, ns, _, h, r => by
    cases r with
    | @cons _ v _ vs r1 r2 =>
      cases d with
      | bl i =>
        simp only [blsD, Option.map_eq_some_iff] at h
        obtain ⟨ms, h1, h2⟩ := h
        subst h2
        cases r1
        rw [blsD_rep h1 r2]; rfl
      | _ => simp [blsD] at h
theorem intsD_map : ∀ ns : List Int, intsD (ns.map D.int) = some ns
  | [] => rfl
  | n :: ns => by simp [intsD, intsD_map ns]
theorem blsD_map : ∀ ns : List Bool, blsD (ns.map D.bl) = some ns
  | [] => rfl
  | n :: ns => by simp [blsD, blsD_map ns]
def opAll : ON
  | [.lst ds], K => ∃ bs, blsD ds = some bs ∧ K (.val (.bl (bs.all id)))
  | _, _ => False
theorem n_all (hc : X.calm = true) : OpN X (.builtin "all") opAll := by
  refine ⟨fun ds K K' i q => ?_, fun pins s σ H g ds vs us K I tr c r q => ?_⟩
  · unfold opAll at q ⊢
    split at q
    · obtain ⟨bs, h, q⟩ := q; exact ⟨bs, h, i _ q⟩
    · exact q
  · unfold opAll at q
    split at q
    · obtain ⟨v, rfl, c1⟩ := c.one
      obtain ⟨a, vs, rfl, h1, h2⟩ := c1.lst
      obtain ⟨bs, hb, q⟩ := q
      exact cr_all hc pins s σ H _ us _ I r ⟨a, bs, rfl, by rw [← blsD_rep hb h2]; exact .inl h1, rk_bl q⟩
    · exact q.elim
def opSum : ON
  | [.lst ds], K => ∃ ns, intsD ds = some ns ∧ K (.val (.int ns.sum))
  | _, _ => False
/-! ### isinstance -/
def tyN : D → Option String
  | .non => some "NoneType"
  | .bl _ => some "bool"
  | .int _ => some "int"
  | .str _ => some "str"
  | .tup _ => some "tuple"
  | .lst _ => some "list"
  | .dct _ _ => none
  | .ref _ => none
  | .fn _ => none
  | .kst _ => none
  | .opq => none
def isInt : D → Option Bool
  | .bl _ => some true | .int _ => some true | .non => some false | .str _ => some false | .tup _ => some false | .lst _ => some false | .dct _ _ => none | .ref _ => none | .fn _ => none | .kst _ => none | .opq => none
def isBl : D → Option Bool
  | .bl _ => some true | .int _ => some false | .non => some false | .str _ => some false | .tup _ => some false | .lst _ => some false | .dct _ _ => none | .ref _ => none | .fn _ => none | .kst _ => none | .opq => none
def isStr : D → Option Bool
  | .bl _ => some false | .int _ => some false | .non => some false | .str _ => some true | .tup _ => some false | .lst _ => some false | .dct _ _ => none | .ref _ => none | .fn _ => none | .kst _ => none | .opq => none
def isTup : D → Option Bool
  | .bl _ => some false | .int _ => some false | .non => some false | .str _ => some false | .tup _ => some true | .lst _ => some false | .dct _ _ => none | .ref _ => none | .fn _ => none | .kst _ => none | .opq => none
def isLst : D → Option Bool
  | .bl _ => some false | .int _ => some false | .non => some false | .str _ => some false | .tup _ => some false | .lst _ => some true | .dct _ _ => none | .ref _ => none | .fn _ => none | .kst _ => none | .opq => none
theorem cont_ty {g : Gh} {H : Hp} {d : D} {x : V} {n : String} (c : Cont X.mg X.wk g H d x) (h : tyN d = some n) : TyX X.K H x (.type n) := by
  cases d with
  | non => cases h; rw [c.non]; exact .base .non
  | bl b => cases h; rw [c.bl]; exact .base (.bl b)
  | int i => cases h; rw [c.int]; exact .base (.int i)
  | str y => cases h; rw [c.str]; exact .base (.str y)
  | tup ds => cases h; obtain ⟨a, vs, rfl, h1, h2⟩ := c.tup; exact .base (.tup h1)
  | lst ds =>
    cases h; obtain ⟨a, vs, rfl, h1, h2⟩ := c.lst
    rcases h1 with h1 | ⟨o, h1⟩
    · exact .base (.lst h1)
    · exact .base (.frz h1)
  | _ => cases h
def wIsi (f : D → Option Bool) (Wo : WO) : WE := fun env S Q => Wo env S fun d env' S' => match f (dr S' d) with
  | some b => Q (.val (.bl b)) env' S'
  | none => False
theorem ve_isi {n : Str} {T : String} {f : D → Option Bool} {Wo : WO} {p p2 : Pos} (hf : ∀ d b, f d = some b → ∃ t, tyN d = some t ∧ kitB t T = some b) (hg : Gl X "isinstance") (hm : X.mg "isinstance" = none) (h : VO X B g0 e Wo)
    (hg2 : Gl X n) (hm2 : X.mg n = none) (hv : bootBuiltins n = some (.type T)) (hn : n ≠ "__name__" := by decide) (hdb : (n == ("__debug__" : Str)) = false := by decide)
    (hs : starEach [e, .Name n p2] X.env = (false, eval e X.env) :: starEach [.Name n p2] X.env := by rfl) (hs2 : starEach [.Name n p2] X.env = (false, eval (.Name n p2) X.env) :: starEach [] X.env := by rfl) (hpl : (backTo pos (starEach [.Name n p2] X.env)).any (·.1) = false := by rfl) :
    VE X B g0 (.Call (.Name "isinstance" p) [e, .Name n p2] [] pos) (wIsi f Wo) := by
  refine VE.of (fun _ _ _ _ i q => h.mono _ _ _ _ (fun d _ _ q => ?_) q) (pe_callB call_isi hg hm (by decide +kernel) (pa_cons h.pe (pa_cons (pe_bltn (v := .ty T) hg2 hm2 hv rfl hn hdb) pa_nil hs2) hs) (by decide) (by decide) hs hpl) fun σ H env S g Q R q => ?_
  · split at q <;> first | exact i _ _ _ q | exact q
  · refine ⟨env, S, g, _, R, q, fun v H1 ⟨g1, d, env1, S1, st1, R1, t1, q1⟩ => ?_⟩
    dsimp only at q1
    split at q1
    · rename_i b hb
      obtain ⟨t, h1, h2⟩ := hf _ _ hb
      exact ⟨v, .ty T, _, _, b, rfl, .ty T, cont_ty (t1.cont R1.sto) h1, kit_ty h2, g1, .val (.bl b), env1, S1, st1, R1, Rep.bl b, q1⟩
    · exact q1.elim
theorem hf_int : ∀ d b, isInt d = some b → ∃ t, tyN d = some t ∧ kitB t "int" = some b := fun d b h => by cases d <;> simp only [isInt] at h <;> first | (cases h; exact ⟨_, rfl, by decide +kernel⟩) | cases h
theorem hf_bl : ∀ d b, isBl d = some b → ∃ t, tyN d = some t ∧ kitB t "bool" = some b := fun d b h => by cases d <;> simp only [isBl] at h <;> first | (cases h; exact ⟨_, rfl, by decide +kernel⟩) | cases h
theorem hf_str : ∀ d b, isStr d = some b → ∃ t, tyN d = some t ∧ kitB t "str" = some b := fun d b h => by cases d <;> simp only [isStr] at h <;> first | (cases h; exact ⟨_, rfl, by decide +kernel⟩) | cases h
theorem hf_tup : ∀ d b, isTup d = some b → ∃ t, tyN d = some t ∧ kitB t "tuple" = some b := fun d b h => by cases d <;> simp only [isTup] at h <;> first | (cases h; exact ⟨_, rfl, by decide +kernel⟩) | cases h
theorem hf_lst : ∀ d b, isLst d = some b → ∃ t, tyN d = some t ∧ kitB t "list" = some b := fun d b h => by cases d <;> simp only [isLst] at h <;> first | (cases h; exact ⟨_, rfl, by decide +kernel⟩) | cases h
theorem bb_int : bootBuiltins "int" = some (.type "int") := by decide +kernel
theorem bb_bool : bootBuiltins "bool" = some (.type "bool") := by decide +kernel
theorem bb_str : bootBuiltins "str" = some (.type "str") := by decide +kernel
theorem bb_tuple : bootBuiltins "tuple" = some (.type "tuple") := by decide +kernel
theorem bb_list : bootBuiltins "list" = some (.type "list") := by decide +kernel
theorem bb_len : bootBuiltins "len" = some (.builtin "len") := by decide +kernel
theorem bb_min : bootBuiltins "min" = some (.builtin "min") := by decide +kernel
theorem bb_all : bootBuiltins "all" = some (.builtin "all") := by decide +kernel
/-- a constant of the module -/
theorem ve_gi {x : Str} {i : Int} (hg : Gl X x) (hm : ∃ t, X.mg x = some (.int i t)) (hd : (x == ("__debug__" : Str)) = false := by decide) : VE X B g0 (.Name x pos) (wC (.int i)) := by
  obtain ⟨t, hm⟩ := hm
  exact ve_c (pe_glob (v := .int i) hg hm ⟨t, rfl⟩ hd) fun _ _ _ => .int i
theorem ve_gs {x : Str} {z : Str} (hg : Gl X x) (hm : ∃ t, X.mg x = some (.str z t)) (hd : (x == ("__debug__" : Str)) = false := by decide) : VE X B g0 (.Name x pos) (wC (.str z)) := by
  obtain ⟨t, hm⟩ := hm
  exact ve_c (pe_glob (v := .str z) hg hm ⟨t, rfl⟩ hd) fun _ _ _ => .str z
end
end VC

set_option Elab.async false
set_option linter.all false
set_option maxRecDepth 100000
set_option maxHeartbeats 4000000
/-! VO: walks over lists or tuples; targets' lengths; results of an assignment to several names that stay own. -/
namespace VC
open PySem PySem.Spec PyProof.Rows L2
section
variable {X : Cx} {B : Hp} {g0 : Gh} {tg e a b c : Expr} {es : List Expr} {pos : Pos}
/-! ### a list or a tuple walked -/
def Itk (K : PySem.W.Frag) : Bool → Addr → It
  | true, a => Itl K a
  | false, a => Itt K a
def iSqX (K : PySem.W.Frag) (tl : TE) : TI := fun σ H R => tl σ H fun x H1 => ∃ a xs isL, x = .ref a ∧ SqK isL H1 a xs ∧ R (Itk K isL a) H1
def iS (W : WE) : WA := fun env S Q => W env S fun t env' S' => sqD t.d fun ds => Q ds env' S'
/-! ### targets' lengths -/
def ExG (G : WG) : Prop := ∀ d env S Q, G d env S Q → ∃ e s, Q e s
def LenG (Gs : WGs) (n : Nat) : Prop := ∀ ds env S Q, Gs ds env S Q → ds.length = n ∧ ∃ e s, Q e s
theorem exN {i : Nat} : ExG (gN i) := fun _ _ _ _ q => ⟨_, _, q⟩
theorem lenN : LenG gNl 0 := fun ds env S Q q => by
  cases ds with
  | nil => exact ⟨rfl, _, _, q⟩
  | cons _ _ => exact q.elim
theorem lenC {G : WG} {Gs : WGs} {n : Nat} (h : ExG G) (hs : LenG Gs n) : LenG (gCs G Gs) (n + 1) := fun ds env S Q q => by
  cases ds with
  | nil => exact q.elim
  | cons d ds =>
    obtain ⟨e, s, q⟩ := h _ _ _ _ q
    obtain ⟨h1, h2⟩ := hs _ _ _ _ q
    exact ⟨by rw [List.length_cons, h1], h2⟩
theorem vg_tupL {es : List Expr} {k : Nat} {pos : Pos} {is : List Nat} {Gs : WGs} {n : Nat} (hc : X.calm = true) (h : VGs X B g0 is es Gs) (hl : LenG Gs n)
    (hn : (assignEach es X.env).length = n := by rfl) (hst : (assignEach es X.env).findIdx? (·.1) = none := by rfl) : VG X B g0 is (.Tuple es k pos) (gT Gs) :=
  vg_tup hc h (fun ds env S Q q => (hl ds env S Q q).1) hn hst

/-! ### several results, each held or own -/
abbrev WL := WX (List T)
inductive RTs (mg : Str → Option Value) (w : WK) (B : Hp) (g : Gh) (H : Hp) (σ : L2.St) (env : VEnv) : List T → List V → Prop
  | nil : RTs mg w B g H σ env [] []
  | cons {t v ts vs} : RT mg w B g H σ env t v → (∀ m a, t = .own m → v = .ref a → ∀ (j : Nat) m', ts[j]? = some (T.own m') → vs[j]? ≠ some (V.ref a)) → RTs mg w B g H σ env ts vs → RTs mg w B g H σ env (t :: ts) (v :: vs)
def LQ (X : Cx) (B : Hp) (g0 : Gh) (g : Gh) (H : Hp) (σ : L2.St) (Q : List T → VEnv → Sto → Prop) : List V → Hp → Prop := fun vs H' => ∃ g' ts env' S', Stp g H g' H' ∧ Rp X.mg X.wk B g0 g' H' σ env' S' ∧ RTs X.mg X.wk B g' H' σ env' ts vs ∧ Q ts env' S'
def tL (X : Cx) (B : Hp) (g0 : Gh) (W : WL) : TA := fun σ H Q => ∃ env S g Q0, Rp X.mg X.wk B g0 g H σ env S ∧ W env S Q0 ∧ ∀ v H', LQ X B g0 g H σ Q0 v H' → Q v H'
structure VLs (X : Cx) (B : Hp) (g0 : Gh) (es : List Expr) (W : WL) : Prop where
  mono : Mo W
  pa : PA X es (tL X B g0 W)
def wL0 : WL := fun env S Q => Q [] env S
def wLC (We : WE) (Wr : WL) : WL := fun env S Q => We env S fun t env1 S1 => Wr env1 S1 fun ts env2 S2 => Q (t :: ts) env2 S2
theorem VLs.of {W : WL} {t : TA} (mono : Mo W) (h : PA X es t)
    (imp : ∀ σ H env S g Q, Rp X.mg X.wk B g0 g H σ env S → W env S Q → t σ H (LQ X B g0 g H σ Q)) : VLs X B g0 es W :=
  ⟨mono, ⟨fun pos pins s σ H Q I ⟨env, S, g, Q0, R, hW, i⟩ => thn (h.run pos pins s σ H _ I (imp σ H env S g Q0 R hW)) fun u s' ⟨vs, H', I', r, q⟩ => ⟨vs, H', I', r, i _ _ q⟩⟩⟩
theorem vl_nil : VLs X B g0 [] wL0 := VLs.of (fun _ _ _ _ i q => i _ _ _ q) pa_nil fun σ H env S g Q R q => ⟨g, [], env, S, Stp.refl g H, R, .nil, q⟩
theorem RTs.len {mg : Str → Option Value} {w : WK} {B : Hp} {g : Gh} {H : Hp} {σ : L2.St} {env : VEnv} : ∀ {ts : List T} {vs : List V}, RTs mg w B g H σ env ts vs → ts.length = vs.length
  | _, _, .nil => rfl
  | _, _, .cons _ _ h => by rw [List.length_cons, List.length_cons, h.len]
theorem RTs.own {mg : Str → Option Value} {w : WK} {B : Hp} {g : Gh} {H : Hp} {σ : L2.St} {env : VEnv} : ∀ {ts : List T} {vs : List V}, RTs mg w B g H σ env ts vs → ∀ (j : Nat) m, ts[j]? = some (T.own m) → ∃ a, vs[j]? = some (V.ref a) ∧ B a = none
  | _, _, .nil, j, m, h => by simp at h
  | _, _, .cons (t := t) r _ _, 0, m, h => by
    simp at h; subst h
    obtain ⟨a, rfl, _, h, _⟩ := r
    exact ⟨a, rfl, h⟩
  | _, _, .cons _ _ r, j + 1, m, h => RTs.own r j m (by simpa using h)
theorem RTs.unbase {mg : Str → Option Value} {w : WK} {B : Hp} {g g' : Gh} {H H' : Hp} {σ : L2.St} {env env' : VEnv} {S : Sto} (R : Rp mg w B g0 g H σ env S) : ∀ {ts : List T} {vs : List V}, RTs mg w (reB H σ env) g' H' σ env' ts vs → RTs mg w B g' H' σ env' ts vs
  | _, _, .nil => .nil
  | _, _, .cons (t := t) r n rs => by
    refine .cons ?_ n (RTs.unbase R rs)
    cases t with
    | val d => exact r
    | own m =>
      obtain ⟨a, h1, h2, h3, h4⟩ := r
      refine ⟨a, h1, h2, ?_, h4⟩
      rcases reB_none h3 with k | k
      · exact (R.ownAt k).1
      · exact R.bn k
theorem vl_cons {We : WE} {Wr : WL} (h : VE X B g0 e We) (hr : ∀ B' g', VLs X B' g' es Wr) (hs : starEach (e :: es) X.env = (false, eval e X.env) :: starEach es X.env := by rfl) : VLs X B g0 (e :: es) (wLC We Wr) := by
  have mr : Mo Wr := (hr B g0).mono
  let tu : TA := fun σ H Q => ∃ B' g', tL X B' g' Wr σ H Q
  have pu : PA X es tu := ⟨fun pos pins s σ H Q I ⟨B', g', h⟩ => (hr B' g').pa.run pos pins s σ H Q I h⟩
  refine VLs.of (fun _ _ _ _ i q => h.mono _ _ _ _ (fun _ _ _ q => mr _ _ _ _ (fun _ _ _ q => i _ _ _ q) q) q) (pa_cons h.pe pu hs) fun σ H env S g Q R q => ?_
  refine ⟨env, S, g, _, R, q, fun v H1 ⟨g1, t, env1, S1, st1, R1, rt, q1⟩ => ?_⟩
  refine ⟨reB H1 σ env1, g1, env1, S1, g1, _, R1.rebase, q1, fun vs H2 ⟨g2, ts, env2, S2, st2, R2, rts, q2⟩ => ?_⟩
  refine ⟨g2, t :: ts, env2, S2, st1.trans st2, R1.unbase R2, ?_, q2⟩
  cases t with
  | val d => exact .cons (Rep.mono st2.toFz rt) (fun m a e => nomatch e) (rts.unbase R1)
  | own m =>
    obtain ⟨a, rfl, r1, r2, r3, r4, r5⟩ := rt
    obtain ⟨o, ho, hnt⟩ := r1.there
    have no : ¬ OwnAt σ env1 a := fun ⟨i, m', e1, e2⟩ => r5 i m' e1 e2
    obtain ⟨k1, k2, k3, k4⟩ := R2.apart ho no r3 r4
    refine .cons ⟨a, rfl, r1.mono st2.toFz (k1.trans ho.symm), r2, k3, k4, fun i m' e1 e2 => k2 ⟨i, m', e1, e2⟩⟩ (fun m0 a0 _ e j m' hj hv => ?_) (rts.unbase R1)
    cases e
    obtain ⟨b, hb, hn⟩ := rts.own j m' hj
    rw [hv] at hb; cases hb
    rw [reB_ne no, ho] at hn; cases hn
/-- a, b = e1, e2 -/
def wPr2 (i j : Nat) (W : WL) : WS := fun D env S => W env S fun ts env' S' => match ts with
  | [d, f] => D.nx ((env'.set i (some d)).set j (some f)) S'
  | _ => False
theorem RT.put {mg : Str → Option Value} {w : WK} {B : Hp} {g : Gh} {H : Hp} {σ : L2.St} {env : VEnv} {i : Nat} {t d : T} {v u : V} (hl : env.length = σ.length) (r : RT mg w B g H σ env t v) (n : ∀ m a, d = .own m → u = .ref a → ∀ m', t = .own m' → v ≠ .ref a)
    (hd : ∀ m, d = .own m → ∃ a, u = .ref a) : RT mg w B g H (σ.set i (some u)) (env.set i (some d)) t v := by
  cases t with
  | val d => exact r
  | own m =>
    obtain ⟨a, h1, h2, h3, h4, h5, h6⟩ := r
    refine ⟨a, h1, h2, h3, h4, h5, fun k m' e q => ?_⟩
    by_cases hk : i = k
    · subst hk
      have hi : i < env.length := by
        have := (List.getElem?_eq_some_iff.mp e).1
        rwa [List.length_set] at this
      rw [List.getElem?_set_self hi] at e
      rw [List.getElem?_set_self (by omega)] at q
      cases e; cases q
      exact n m' a rfl rfl m rfl h1
    · rw [List.getElem?_set_ne hk] at e q
      exact h6 k m' e q
theorem RT.isref {mg : Str → Option Value} {w : WK} {B : Hp} {g : Gh} {H : Hp} {σ : L2.St} {env : VEnv} {d : T} {v : V} (r : RT mg w B g H σ env d v) : ∀ m, d = .own m → ∃ a, v = .ref a := fun m e => by
  subst e; obtain ⟨a, h, _⟩ := r; exact ⟨a, h⟩
def wPr3 (i j l : Nat) (W : WL) : WS := fun D env S => W env S fun ts env' S' => match ts with
  | [d, f, h] => D.nx (((env'.set i (some d)).set j (some f)).set l (some h)) S'
  | _ => False
theorem vs_pr3 {i j l : Nat} {x y z : Str} {px py pz pt pt2 : Pos} {kt k2 : Nat} {W : WL} (h : VLs X B g0 [a, b, c] W) (hp : ∀ ta, PA X [a, b, c] ta → PS X (.Assign [.Tuple [.Name x px, .Name y py, .Name z pz] kt pt] (.Tuple [a, b, c] k2 pt2) pos) (tPar3 i j l ta)) :
    VS X B g0 (.Assign [.Tuple [.Name x px, .Name y py, .Name z pz] kt pt] (.Tuple [a, b, c] k2 pt2) pos) (wPr3 i j l W) := by
  refine VS.of (fun _ _ _ _ k q => h.mono _ _ _ _ (fun ds _ _ q => ?_) q) (hp _ h.pa) fun σ H env S g De R q => ?_
  · split at q <;> first | exact k.nx _ _ q | exact q.elim
  · refine ⟨env, S, g, _, R, q, fun vs H1 ⟨g1, ds, env1, S1, st1, R1, ra, q1⟩ => ?_⟩
    dsimp only at q1
    split at q1
    · cases ra with
      | cons r1 n1 ra =>
        cases ra with
        | cons r2 n2 ra =>
          cases ra with
          | cons r3 n3 ra =>
            cases ra
            refine ⟨_, _, _, rfl, g1, _, S1, st1.toFz, ((R1.putOwn i r1).putOwn j (r2.put R1.len (fun m a e1 e2 m' e3 e4 => n1 m a e1 e2 0 m' (by simp [e3]) (by simp [e4])) r1.isref)).putOwn l ?_, q1⟩
            refine RT.put (by rw [List.length_set, List.length_set]; exact R1.len) (r3.put R1.len (fun m a e1 e2 m' e3 e4 => n1 m a e1 e2 1 m' (by simp [e3]) (by simp [e4])) r1.isref) (fun m a e1 e2 m' e3 e4 => n2 m a e1 e2 0 m' (by simp [e3]) (by simp [e4])) r2.isref
    · exact q1.elim
end
end VC

set_option Elab.async false
set_option linter.all false
set_option maxRecDepth 100000
set_option maxHeartbeats 4000000
/-! VP: x in a list or tuple of data; the built-in names. -/
namespace VC
open PySem PySem.Spec PyProof.Rows L2
section
variable {X : Cx}
def opIn (neg : Bool) : O2
  | d, .tup es, K => (d.cmp = true ∧ (D.tup es).cmp = true) ∧ K (.val (.bl (if neg then !es.any fun z => D.eqv z d else es.any fun z => D.eqv z d)))
  | d, .lst es, K => (d.cmp = true ∧ (D.lst es).cmp = true) ∧ K (.val (.bl (if neg then !es.any fun z => D.eqv z d else es.any fun z => D.eqv z d)))
  | _, _, _ => False
theorem opIn_mono (neg : Bool) : Mo2 (opIn neg) := fun d e K K' i q => by
  unfold opIn at q ⊢
  split at q <;> first | exact ⟨q.1, i _ q.2⟩ | exact q.elim
theorem any_pds (d : D) (hd : d.isData = true) : ∀ es : List D, D.allData es = true → ((D.pds es).any fun z => PyData.eqv z d.pd) = es.any fun z => D.eqv z d
  | [], _ => by simp [D.pds]
  | e :: es, h => by
    simp only [D.allData, Bool.and_eq_true] at h
    simp only [D.pds, List.any_cons]
    rw [any_pds d hd es h.2, eqv_pd e d h.1 hd]
theorem o_in (hu : X.A.units + 65 < cLine) : Op2 X (compareOp .In) (opIn false) := by
  refine ⟨opIn_mono _, fun pins s σ H g d e x y v u K I tr c1 c2 r1 r2 q => ?_⟩
  unfold opIn at q
  split at q
  · obtain ⟨⟨q1, q2⟩, q⟩ := q
    simp only [D.cmp, D.isData, Bool.and_eq_true] at q1 q2
    obtain ⟨as, e1⟩ := Dp.reads I _ x v (c1.dp q1.1) r1
    obtain ⟨bs, e2⟩ := Dp.reads I _ y u (c2.dp (by simpa [D.isData] using q2.1)) r2
    rw [← any_pds _ q1.1 _ q2.1] at q
    exact SeqAt.in_tuple_reads e2 e1 (SeqAt.canLay_of_shaped q2.2) (SeqAt.canLay_of_shaped q1.2) (room_in_shaped q1.2 hu) ⟨.bl _, H, I, rfl, rk_bl q⟩
  · obtain ⟨⟨q1, q2⟩, q⟩ := q
    simp only [D.cmp, D.isData, Bool.and_eq_true] at q1 q2
    obtain ⟨as, e1⟩ := Dp.reads I _ x v (c1.dp q1.1) r1
    obtain ⟨bs, e2⟩ := Dp.reads I _ y u (c2.dp (by simpa [D.isData] using q2.1)) r2
    rw [← any_pds _ q1.1 _ q2.1] at q
    exact SeqAt.in_list_reads e2 e1 (SeqAt.canLay_of_shaped q2.2) (SeqAt.canLay_of_shaped q1.2) (room_in_shaped q1.2 hu) ⟨.bl _, H, I, rfl, rk_bl q⟩
  · exact q.elim
theorem o_notin (hu : X.A.units + 65 < cLine) : Op2 X (compareOp .NotIn) (opIn true) := by
  refine ⟨opIn_mono _, fun pins s σ H g d e x y v u K I tr c1 c2 r1 r2 q => ?_⟩
  unfold opIn at q
  split at q
  · obtain ⟨⟨q1, q2⟩, q⟩ := q
    simp only [D.cmp, D.isData, Bool.and_eq_true] at q1 q2
    obtain ⟨as, e1⟩ := Dp.reads I _ x v (c1.dp q1.1) r1
    obtain ⟨bs, e2⟩ := Dp.reads I _ y u (c2.dp (by simpa [D.isData] using q2.1)) r2
    rw [← any_pds _ q1.1 _ q2.1] at q
    exact SeqAt.notIn_tuple_reads e2 e1 (SeqAt.canLay_of_shaped q2.2) (SeqAt.canLay_of_shaped q1.2) (room_in_shaped q1.2 hu) ⟨.bl _, H, I, rfl, rk_bl q⟩
  · obtain ⟨⟨q1, q2⟩, q⟩ := q
    simp only [D.cmp, D.isData, Bool.and_eq_true] at q1 q2
    obtain ⟨as, e1⟩ := Dp.reads I _ x v (c1.dp q1.1) r1
    obtain ⟨bs, e2⟩ := Dp.reads I _ y u (c2.dp (by simpa [D.isData] using q2.1)) r2
    rw [← any_pds _ q1.1 _ q2.1] at q
    exact SeqAt.notIn_list_reads e2 e1 (SeqAt.canLay_of_shaped q2.2) (SeqAt.canLay_of_shaped q1.2) (room_in_shaped q1.2 hu) ⟨.bl _, H, I, rfl, rk_bl q⟩
  · exact q.elim
theorem _root_.L2.Room.u65 {k : Nat} {A : Around} (r : Room k A) : A.units + 65 < cLine := by have := r.un; omega
end
/-- the built-in names that no module of the program takes -/
structure Nob (mg : Str → Option Value) : Prop where
  len : mg "len" = none
  min : mg "min" = none
  max : mg "max" = none
  int : mg "int" = none
  isinstance : mg "isinstance" = none
  tuple : mg "tuple" = none
  list : mg "list" = none
  all : mg "all" = none
  sum : mg "sum" = none
  bool : mg "bool" = none
  str : mg "str" = none
  range : mg "range" = none
  zip : mg "zip" = none
  enumerate : mg "enumerate" = none
  sorted : mg "sorted" = none
  set : mg "set" = none
  dict : mg "dict" = none
  abs : mg "abs" = none
end VC

set_option Elab.async false
set_option linter.all false
set_option maxRecDepth 100000
set_option maxHeartbeats 4000000
/-! VQ: data that may be compared; loops by induction. -/
namespace VC
open PySem PySem.Spec PyProof.Rows L2
mutual
/-- data of depth n at most, no bool, texts as they may be -/
def okd : D → Nat → Bool
  | .non, _ => true
  | .int _, _ => true
  | .str x, _ => PyData.strOk x
  | .tup xs, n => match n with
    | 0 => false
    | n + 1 => okds xs n
  | .lst xs, n => match n with
    | 0 => false
    | n + 1 => okds xs n
  | .bl _, _ => false
  | .dct _ _, _ => false
  | .ref _, _ => false
  | .fn _, _ => false
  | .kst _, _ => false
  | .opq, _ => false
def okds : List D → Nat → Bool
  | [], _ => true
  | x :: xs, n => okd x n && okds xs n
end
mutual
theorem okd_lay : ∀ (d : D) (n : Nat), okd d n = true → d.isData = true ∧ d.pd.canLay0 = true ∧ d.pd.depth ≤ n
  | .non, _, _ => by simp [D.isData, D.pd, PyData.canLay0, PyData.depth]
  | .int _, _, _ => by simp [D.isData, D.pd, PyData.canLay0, PyData.depth]
  | .str x, _, h => by simp [okd] at h; simp [D.isData, D.pd, PyData.canLay0, PyData.depth, h]
  | .tup xs, n, h => by
    cases n with
    | zero => simp [okd] at h
    | succ n =>
      simp only [okd] at h
      obtain ⟨h1, h2, h3⟩ := okds_lay xs n h
      simp only [D.isData, D.pd, PyData.canLay0, PyData.depth]
      exact ⟨h1, h2, Nat.succ_le_succ h3⟩
  | .lst xs, n, h => by
    cases n with
    | zero => simp [okd] at h
    | succ n =>
      simp only [okd] at h
      obtain ⟨h1, h2, h3⟩ := okds_lay xs n h
      simp only [D.isData, D.pd, PyData.canLay0, PyData.depth]
      exact ⟨h1, h2, Nat.succ_le_succ h3⟩
  | .bl _, _, h => by simp [okd] at h
  | .dct _ _, _, h => by simp [okd] at h
  | .ref _, _, h => by simp [okd] at h
  | .fn _, _, h => by simp [okd] at h
  | .kst _, _, h => by simp [okd] at h
  | .opq, _, h => by simp [okd] at h
theorem okds_lay : ∀ (ds : List D) (n : Nat), okds ds n = true → D.allData ds = true ∧ PyData.canLayAll0 (D.pds ds) = true ∧ PyData.depthAll (D.pds ds) ≤ n
  | [], _, _ => by simp [D.allData, D.pds, PyData.canLayAll0, PyData.depthAll]
  | x :: xs, n, h => by
    simp only [okds, Bool.and_eq_true] at h
    obtain ⟨h1, h2, h3⟩ := okd_lay x n h.1
    obtain ⟨k1, k2, k3⟩ := okds_lay xs n h.2
    simp only [D.allData, D.pds, PyData.canLayAll0, PyData.depthAll, Bool.and_eq_true]
    exact ⟨⟨h1, k1⟩, ⟨h2, k2⟩, Nat.max_le.mpr ⟨h3, k3⟩⟩
end
theorem okd_cmp {d : D} {n : Nat} (h : okd d n = true) (hn : n ≤ 64 := by decide) : d.cmp = true := by
  obtain ⟨h1, h2, h3⟩ := okd_lay d n h
  simp only [D.cmp, SeqAt.shaped, Bool.and_eq_true, decide_eq_true_eq]
  exact ⟨h1, h2, Nat.le_trans h3 hn⟩
mutual
theorem eqv_iff : ∀ (d e : D) (n m : Nat), okd d n = true → okd e m = true → (D.eqv d e = true ↔ d = e)
  | .non, e, n, m, _, h => by cases e <;> simp [D.eqv, okd] at h ⊢
  | .int i, e, n, m, _, h => by cases e <;> simp [D.eqv, okd] at h ⊢
  | .str i, e, n, m, _, h => by cases e <;> simp [D.eqv, okd] at h ⊢
  | .tup xs, e, n, m, k, h => by
    cases n with
    | zero => simp [okd] at k
    | succ n =>
      cases e with
      | tup ys =>
        cases m with
        | zero => simp [okd] at h
        | succ m =>
          simp only [okd] at k h
          simp only [D.eqv, D.tup.injEq]
          exact eqvs_iff xs ys n m k h
      | _ => simp [D.eqv]
  | .lst xs, e, n, m, k, h => by
    cases n with
    | zero => simp [okd] at k
    | succ n =>
      cases e with
      | lst ys =>
        cases m with
        | zero => simp [okd] at h
        | succ m =>
          simp only [okd] at k h
          simp only [D.eqv, D.lst.injEq]
          exact eqvs_iff xs ys n m k h
      | _ => simp [D.eqv]
  | .bl _, _, _, _, k, _ => by simp [okd] at k
  | .dct _ _, _, _, _, k, _ => by simp [okd] at k
  | .ref _, _, _, _, k, _ => by simp [okd] at k
  | .fn _, _, _, _, k, _ => by simp [okd] at k
  | .kst _, _, _, _, k, _ => by simp [okd] at k
  | .opq, _, _, _, k, _ => by simp [okd] at k
theorem eqvs_iff : ∀ (ds es : List D) (n m : Nat), okds ds n = true → okds es m = true → (D.eqvs ds es = true ↔ ds = es)
  | [], es, _, _, _, _ => by cases es <;> simp [D.eqvs]
  | x :: xs, es, n, m, k, h => by
    cases es with
    | nil => simp [D.eqvs]
    | cons y ys =>
      simp only [okds, Bool.and_eq_true] at k h
      simp only [D.eqvs, Bool.and_eq_true, List.cons.injEq]
      rw [eqv_iff x y n m k.1 h.1, eqvs_iff xs ys n m k.2 h.2]
end
theorem okds_all {n : Nat} : ∀ {ds : List D}, (∀ d ∈ ds, okd d n = true) → okds ds n = true
  | [], _ => rfl
  | x :: xs, h => by
    simp only [okds, Bool.and_eq_true]
    exact ⟨h x (List.mem_cons_self ..), okds_all fun d hd => h d (List.mem_cons_of_mem _ hd)⟩
/-- a loop over items -/
theorem forW_ind {G : WG} {W : WS} {D0 : WEnds} (J : List D → VEnv → Sto → Prop) (fin : ∀ e s, J [] e s → D0.nx e s)
    (step : ∀ d ds e s (K : WEnd), J (d :: ds) e s → (∀ e s, J ds e s → K e s) → G d e s fun e s => W { D0 with nx := K, ct := K, bk := D0.nx } e s) : ∀ {items : List D} {e : VEnv} {s : Sto}, J items e s → forW G W D0 items e s
  | [], e, s, h => fin e s h
  | d :: ds, e, s, h => step d ds e s _ h fun e s h => forW_ind J fin step h
/-- .. given by a list of something -/
theorem forW_map {α : Type} {f : α → D} {G : WG} {W : WS} {D0 : WEnds} (J : List α → VEnv → Sto → Prop) (fin : ∀ e s, J [] e s → D0.nx e s)
    (step : ∀ a as e s (K : WEnd), J (a :: as) e s → (∀ e s, J as e s → K e s) → G (f a) e s fun e s => W { D0 with nx := K, ct := K, bk := D0.nx } e s) : ∀ {items : List α} {e : VEnv} {s : Sto}, J items e s → forW G W D0 (items.map f) e s
  | [], e, s, h => fin e s h
  | d :: ds, e, s, h => step d ds e s _ h fun e s h => forW_map J fin step h
/-- .. of a range: i the turns that are done -/
theorem forW_rng {lo : Int} {n : Nat} {G : WG} {W : WS} {D0 : WEnds} (J : Nat → VEnv → Sto → Prop) (fin : ∀ e s, J n e s → D0.nx e s)
    (step : ∀ (i : Nat) e s (K : WEnd), i < n → J i e s → (∀ e s, J (i + 1) e s → K e s) → G (.int (lo + (i : Int))) e s fun e s => W { D0 with nx := K, ct := K, bk := D0.nx } e s) {e : VEnv} {s : Sto} (h : J 0 e s) : forW G W D0 (rngD lo n) e s := by
  have key : ∀ (l : List Nat) (e : VEnv) (s : Sto) (i : Nat), l = (List.range n).drop i → i ≤ n → J i e s → forW G W D0 (l.map fun (i : Nat) => .int (lo + (i : Int))) e s := by
    intro l
    induction l with
    | nil =>
      intro e s i hl hi h
      have : n ≤ i := by simpa using (List.drop_eq_nil_iff.mp hl.symm)
      have e1 : i = n := by omega
      subst e1
      exact fin e s h
    | cons a l ih =>
      intro e s i hl hi h
      have hi' : i < n := by
        refine Nat.lt_of_not_le fun q => ?_
        rw [List.drop_eq_nil_of_le (by simpa using q)] at hl
        cases hl
      rw [List.drop_eq_getElem_cons (by simpa using hi')] at hl
      obtain ⟨h1, h2⟩ := List.cons.inj hl
      have h1 : a = i := by simpa using h1
      subst h1
      exact step a e s _ hi' h fun e s h => ih e s (a + 1) h2 hi' h
  unfold rngD
  exact key _ e s 0 (by simp) (Nat.zero_le _) h
theorem lcW_ind {vs : List Nat} {G : WG} {Wt : WT} {We : WE} {Q : List D → VEnv → Sto → Prop} (J : List D → List D → VEnv → Sto → Prop) (fin : ∀ acc e s, J [] acc e s → Q acc e s)
    (step : ∀ d ds acc e s (K : List D → VEnv → Sto → Prop), J (d :: ds) acc e s → (∀ acc e s, J ds acc e s → K acc e s) → G d e s fun e1 s1 => Wt e1 s1 fun b e2 s2 => Ite b (We e2 s2 fun t e3 s3 => K (acc ++ [t.d]) (wpE e3 vs) s3) (K acc (wpE e2 vs) s2)) :
    ∀ {items acc : List D} {e : VEnv} {s : Sto}, J items acc e s → lcW vs G Wt We items acc e s Q
  | [], acc, e, s, h => fin acc e s h
  | d :: ds, acc, e, s, h => step d ds acc e s _ h fun acc e s h => lcW_ind J fin step h
/-- a comprehension that computes: f an item's answer, none if left out -/
theorem lcW_pure {α : Type} {vs : List Nat} {G : WG} {Wt : WT} {We : WE} {Q : List D → VEnv → Sto → Prop} (enc : α → D) (f : α → Option D) (e0 : VEnv) (s0 : Sto) {items : List α}
    (step : ∀ a ∈ items, ∀ (K : List D → VEnv → Sto → Prop) acc, K (acc ++ (f a).toList) e0 s0 → G (enc a) e0 s0 fun e1 s1 => Wt e1 s1 fun b e2 s2 => Ite b (We e2 s2 fun t e3 s3 => K (acc ++ [t.d]) (wpE e3 vs) s3) (K acc (wpE e2 vs) s2))
    (q : Q (items.filterMap f) e0 s0) : lcW vs G Wt We (items.map enc) [] e0 s0 Q := by
  have key : ∀ (l : List α) (acc : List D), (∀ a ∈ l, a ∈ items) → acc ++ l.filterMap f = items.filterMap f → lcW vs G Wt We (l.map enc) acc e0 s0 Q := by
    intro l
    induction l with
    | nil => intro acc _ h; rw [List.filterMap_nil, List.append_nil] at h; rw [← h] at q; exact q
    | cons a l ih =>
      intro acc hm h
      rw [List.map_cons]
      unfold lcW
      refine step a (hm a (List.mem_cons_self ..)) (fun acc e s => lcW vs G Wt We (l.map enc) acc e s Q) acc ?_
      refine ih _ (fun b hb => hm b (List.mem_cons_of_mem _ hb)) ?_
      rw [← h, List.filterMap_cons]
      cases f a <;> simp
  exact key items [] (fun _ h => h) (by simp)
end VC

set_option Elab.async false
set_option linter.all false
set_option maxRecDepth 100000
set_option maxHeartbeats 4000000
/-! VR: dicts: is a key in, its value, a value stored. -/
namespace VC
open PySem PySem.Spec PyProof.Rows L2

/-! ### which sort of keys -/
def D.isT : D → Bool
  | .tup _ => true
  | .non => false
  | .bl _ => false
  | .int _ => false
  | .str _ => false
  | .lst _ => false
  | .dct _ _ => false
  | .ref _ => false
  | .fn _ => false
  | .kst _ => false
  | .opq => false
def D.isL : D → Bool
  | .int _ => true
  | .str _ => true
  | .tup _ => false
  | .non => false
  | .bl _ => false
  | .lst _ => false
  | .dct _ _ => false
  | .ref _ => false
  | .fn _ => false
  | .kst _ => false
  | .opq => false
/-- all keys tuples, or all keys ints and texts -/
def Kinds (ks : List D) (k : D) : Prop := (k.isT = true ∧ ∀ q ∈ ks, q.isT = true) ∨ (k.isL = true ∧ ∀ q ∈ ks, q.isL = true)
section
variable {X : Cx} {pins : List (Addr × Obj)} {s : Shared} {σ : L2.St} {H : Hp} {mg : Str → Option Value} {w w' : WK} {g : Gh}
mutual
/-- a datum that is a key, in the heap -/
theorem Rep.nested (I : Inv X pins σ H s) : ∀ {d : D} {v : V} {u : Value} {nk : NestedKey}, Rep mg w g H d v → D.key d = some nk → RelV v u → NestedIs s.heap nk u
  | _, _, u, _, .non, e, r => by simp [D.key] at e; subst e; cases r; exact .none
  | _, _, u, _, .bl b, e, r => by simp [D.key] at e; subst e; cases r; exact .bool rfl
  | _, _, u, _, .int i, e, r => by simp [D.key] at e; subst e; obtain ⟨t, rfl⟩ := r; exact .int _ _
  | _, _, u, _, .str i, e, r => by simp [D.key] at e; subst e; obtain ⟨t, rfl⟩ := r; exact .text _ _
  | _, _, u, nk, .tup (ds := ds) h1 h2, e, r => by
    simp only [D.key, Option.map_eq_some_iff] at e
    obtain ⟨ks, e1, rfl⟩ := e
    cases r
    obtain ⟨its, rv, ⟨o, ho, hc, n, hd⟩, hz⟩ := I.tuple (SqT.at h1)
    exact .tup ho hc hd (by simpa using RepAll.nested I h2 e1 rv)
  | _, _, _, _, .lst _ _ _, e, _ => by simp [D.key] at e
  | _, _, _, _, .dct _ _ _ _ _, e, _ => by simp [D.key] at e
  | _, _, _, _, .ref _, e, _ => by simp [D.key] at e
  | _, _, _, _, .fn _, e, _ => by simp [D.key] at e
  | _, _, _, _, .kst _ _, e, _ => by simp [D.key] at e
  | _, _, _, _, .opq, e, _ => by simp [D.key] at e
theorem RepAll.nested (I : Inv X pins σ H s) : ∀ {ds : List D} {vs : List V} {us : List Value} {ks : List NestedKey}, RepAll mg w g H ds vs → D.keys ds = some ks → Vals vs us → NestedAll s.heap ks us
  | _, _, _, _, .nil, e, r => by simp [D.keys] at e; subst e; cases r; exact .nil
  | _, _, _, _, .cons (d := d) (ds := ds) h1 h2, e, r => by
    simp only [D.keys] at e
    split at e
    · rename_i k ks e1 e2
      cases e
      cases r with
      | cons r1 r2 => exact .cons (Rep.nested I h1 e1 r1) (RepAll.nested I h2 e2 r2)
    · cases e
end
/-! ### keys that are tuples -/
/-- the dict's entries as a key, its object, its value -/
inductive TT3 (mg : Str → Option Value) (w : WK) (g : Gh) (H : Hp) : List D → List D → List (NestedKey × Addr × Value) → Prop
  | nil : TT3 mg w g H [] [] []
  | cons {k d ks ds x xs dv} : kok k 8 = true → D.key k = some x.1 → Rep mg w g H k (.ref x.2.1) → Rep mg w g H d dv → RelV dv x.2.2 → TT3 mg w g H ks ds xs → TT3 mg w g H (k :: ks) (d :: ds) (x :: xs)
theorem RepEs.tt : ∀ {ks ds : List D} {es : List DictEntry}, RepEs mg w g H ks ds es → (∀ q ∈ ks, q.isT = true) → ∃ xs, TT3 mg w g H ks ds xs ∧ es = xs.map (entryOfKey (nestedKind X.prog w.1))
  | _, _, _, .nil, _ => ⟨[], .nil, rfl⟩
  | _, _, _, .cons (k := k) (kv := kv) (e := e) (nk := nk) h1 h2 h3 h4 h5 h6 h7 h8, hq => by
    obtain ⟨xs, t, e1⟩ := RepEs.tt h8 fun q hm => hq q (List.mem_cons_of_mem _ hm)
    have hk := hq k (List.mem_cons_self ..)
    cases h1 with
    | @tup a vs ds q1 q2 =>
      have e2 : e.key = .ref a := h2
      refine ⟨(nk, a, e.val) :: xs, .cons h5 h6 (.tup q1 q2) h3 h4 t, ?_⟩
      rw [List.map_cons, ← e1]
      obtain ⟨eh, ek, ev⟩ := e
      simp only at e2 h7
      subst e2 h7
      rfl
    | _ => simp [D.isT] at hk
theorem TT3.es : ∀ {ks ds : List D} {xs : List (NestedKey × Addr × Value)}, TT3 mg w g H ks ds xs → RepEs mg w g H ks ds (xs.map (entryOfKey (nestedKind X.prog w.1)))
  | _, _, _, .nil => .nil
  | _, _, _, .cons h1 h2 h3 h4 h5 h6 => .cons h3 rfl h4 h5 h1 h2 rfl (TT3.es h6)
theorem TT3.keys : ∀ {ks ds : List D} {xs : List (NestedKey × Addr × Value)}, TT3 mg w g H ks ds xs → ks.map D.key = xs.map fun x => some x.1
  | _, _, _, .nil => rfl
  | _, _, _, .cons _ h2 _ _ _ h6 => by rw [List.map_cons, List.map_cons, h2, TT3.keys h6]
theorem TT3.is (I : Inv X pins σ H s) : ∀ {ks ds : List D} {xs : List (NestedKey × Addr × Value)}, TT3 mg w g H ks ds xs → ∀ x ∈ xs, (nestedKind X.prog w.1).is s.heap x.1 x.2.1
  | _, _, _, .nil, x, hx => by simp at hx
  | _, _, _, .cons h1 h2 h3 h4 h5 h6, x, hx => by
    rcases List.mem_cons.mp hx with rfl | hx
    · obtain ⟨nk, e1, e2⟩ := kok_key _ _ h1
      rw [h2] at e1; cases e1
      exact ⟨Rep.nested I h3 h2 rfl, e2⟩
    · exact TT3.is I h6 x hx
theorem nodup_of {ks : List D} {xs : List (NestedKey × Addr × Value)} (e : ks.map D.key = xs.map fun x => some x.1) (n : (ks.map D.key).Nodup) : (xs.map (·.1)).Nodup := by
  rw [e] at n
  have : (xs.map fun x => some x.1) = (xs.map (·.1)).map some := by rw [List.map_map]; rfl
  rw [this] at n
  exact (List.pairwise_map.mp n).imp fun h e => h (by rw [e])
theorem atKey_cons {x : NestedKey × Addr × Value} {xs : List (NestedKey × Addr × Value)} {nk : NestedKey} : atKey (x :: xs) nk = if x.1 = nk then some x.2 else atKey xs nk := by
  unfold atKey
  rw [List.find?_cons]
  by_cases h : x.1 = nk
  · rw [if_pos h, decide_eq_true h]; rfl
  · rw [if_neg h, decide_eq_false h]
theorem TT3.at {k d : D} {nk : NestedKey} (ek : D.key k = some nk) : ∀ {ks ds : List D} {xs : List (NestedKey × Addr × Value)} {i : Nat}, TT3 mg w g H ks ds xs → (ks.map D.key).Nodup → ks[i]? = some k → ds[i]? = some d →
    ∃ p dv, atKey xs nk = some p ∧ Rep mg w g H d dv ∧ RelV dv p.2
  | _, _, _, i, .nil, _, h, _ => by simp at h
  | _, _, _, 0, .cons (x := x) (dv := dv) h1 h2 h3 h4 h5 h6, n, h, h' => by
    simp at h h'; subst h h'
    rw [h2] at ek; cases ek
    exact ⟨x.2, dv, by rw [atKey_cons, if_pos rfl], h4, h5⟩
  | _, _, _, i + 1, .cons (x := x) h1 h2 h3 h4 h5 h6, n, h, h' => by
    rw [List.map_cons, List.nodup_cons] at n
    obtain ⟨p, dv, e, r⟩ := TT3.at ek h6 n.2 (by simpa using h) (by simpa using h')
    refine ⟨p, dv, ?_, r⟩
    rw [atKey_cons, if_neg, e]
    intro e2
    exact n.1 (by rw [h2, e2, ← ek]; exact List.mem_map.mpr ⟨k, List.mem_of_getElem? (by simpa using h), rfl⟩)
theorem TT3.none {k : D} {nk : NestedKey} (hk : kok k 8 = true) (ek : D.key k = some nk) : ∀ {ks ds : List D} {xs : List (NestedKey × Addr × Value)}, TT3 mg w g H ks ds xs → k ∉ ks → atKey xs nk = none
  | _, _, _, .nil, _ => rfl
  | _, _, _, .cons h1 h2 h3 h4 h5 h6, h => by
    rw [atKey_cons, if_neg, TT3.none hk ek h6 fun z => h (List.mem_cons_of_mem _ z)]
    intro e2
    exact h (List.mem_cons.mpr (.inl (key_inj _ _ _ _ hk h1 (by rw [ek, h2, e2]))))
theorem TT3.put {k d : D} {nk : NestedKey} {dv : V} {u : Value} (ek : D.key k = some nk) (r1 : Rep mg w g H d dv) (r2 : RelV dv u) : ∀ {ks ds : List D} {xs : List (NestedKey × Addr × Value)} {i : Nat}, TT3 mg w g H ks ds xs → (ks.map D.key).Nodup → ks[i]? = some k →
    TT3 mg w g H ks (ds.set i d) (xs.map (putAt nk u))
  | _, _, _, i, .nil, _, h => by simp at h
  | _, _, _, 0, .cons (x := x) (ks := ks) (ds := ds) (xs := xs) h1 h2 h3 h4 h5 h6, n, h => by
    simp at h; subst h
    rw [h2] at ek; cases ek
    have e : xs.map (putAt x.1 u) = xs := by
      rw [List.map_cons, List.nodup_cons] at n
      refine (List.map_congr_left (g := id) fun y hy => ?_).trans (List.map_id _)
      show _ = y
      unfold putAt
      rw [if_neg]
      intro e
      refine n.1 ?_
      rw [h2, h6.keys]
      exact List.mem_map.mpr ⟨y, hy, by rw [e]⟩
    rw [List.map_cons, e, List.set_cons_zero]
    have e2 : putAt x.1 u x = (x.1, x.2.1, u) := if_pos rfl
    rw [e2]
    exact .cons h1 h2 h3 r1 r2 h6
  | _, _, _, i + 1, .cons (x := x) h1 h2 h3 h4 h5 h6, n, h => by
    rw [List.map_cons, List.nodup_cons] at n
    have q := TT3.put ek r1 r2 h6 n.2 (by simpa using h)
    have e2 : putAt nk u x = x := by
      unfold putAt
      rw [if_neg]
      intro e
      exact n.1 (by rw [h2, e, ← ek]; exact List.mem_map.mpr ⟨k, List.mem_of_getElem? (by simpa using h), rfl⟩)
    rw [List.map_cons, e2, List.set_cons_succ]
    exact .cons h1 h2 h3 h4 h5 q
theorem TT3.app {k d : D} {nk : NestedKey} {a : Addr} {dv : V} {u : Value} (hk : kok k 8 = true) (ek : D.key k = some nk) (rk : Rep mg w g H k (.ref a)) (r1 : Rep mg w g H d dv) (r2 : RelV dv u) : ∀ {ks ds : List D} {xs : List (NestedKey × Addr × Value)}, TT3 mg w g H ks ds xs →
    TT3 mg w g H (ks ++ [k]) (ds ++ [d]) (xs ++ [(nk, a, u)])
  | _, _, _, .nil => .cons hk ek rk r1 r2 .nil
  | _, _, _, .cons h1 h2 h3 h4 h5 h6 => .cons h1 h2 h3 h4 h5 (TT3.app hk ek rk r1 r2 h6)
theorem TT3.len : ∀ {ks ds : List D} {xs : List (NestedKey × Addr × Value)}, TT3 mg w g H ks ds xs → xs.length = ks.length ∧ ds.length = ks.length
  | _, _, _, .nil => ⟨rfl, rfl⟩
  | _, _, _, .cons _ _ _ _ _ h6 => ⟨by rw [List.length_cons, List.length_cons, (TT3.len h6).1], by rw [List.length_cons, List.length_cons, (TT3.len h6).2]⟩
/-! ### keys that are ints or texts -/
def kD : Key → D
  | .inl i => .int i
  | .inr x => .str x
def kN : Key → NestedKey
  | .inl i => .num i
  | .inr x => .text x
theorem kD_key (k : Key) : D.key (kD k) = some (kN k) := by cases k <;> rfl
theorem kD_inj {a b : Key} (h : kD a = kD b) : a = b := by cases a <;> cases b <;> simp [kD] at h <;> rw [h]
theorem kD_of {d : D} (h : d.isL = true) : ∃ k, d = kD k := by
  cases d <;> simp [D.isL] at h
  · exact ⟨.inl _, rfl⟩
  · exact ⟨.inr _, rfl⟩
inductive LL3 (mg : Str → Option Value) (w : WK) (g : Gh) (H : Hp) : List D → List D → List (Key × Value) → Prop
  | nil : LL3 mg w g H [] [] []
  | cons {d ks ds x xs dv} : Rep mg w g H d dv → RelV dv x.2 → LL3 mg w g H ks ds xs → LL3 mg w g H (kD x.1 :: ks) (d :: ds) (x :: xs)
theorem keyIs_of {P : Program} {w : World} {k : Key} {v : V} {u : Value} (r : Rep mg w' g H (kD k) v) (e : RelV v u) : keyIs k u = true := by
  cases k with
  | inl i => cases r; obtain ⟨t, rfl⟩ := e; simp [keyIs, Value.isInt]
  | inr x => cases r; obtain ⟨t, rfl⟩ := e; simp [keyIs, Value.isStrOf]
theorem RepEs.ll {P : Program} : ∀ {ks ds : List D} {es : List DictEntry}, RepEs mg w g H ks ds es → (∀ q ∈ ks, q.isL = true) → ∃ kvs, LL3 mg w g H ks ds kvs ∧ Pairs (mixKind P w.1) es kvs ∧ ∀ e ∈ es, ∃ k, keyIs k e.key = true ∧ e.hash = keyH w.1 k
  | _, _, _, .nil, _ => ⟨[], .nil, .nil, fun e h => by simp at h⟩
  | _, _, _, .cons (k := k) (kv := kv) (e := e) (nk := nk) h1 h2 h3 h4 h5 h6 h7 h8, hq => by
    obtain ⟨xs, t, p, q⟩ := RepEs.ll (P := P) h8 fun q hm => hq q (List.mem_cons_of_mem _ hm)
    obtain ⟨k', rfl⟩ := kD_of (hq k (List.mem_cons_self ..))
    have ki := keyIs_of (P := P) (w := w.1) h1 h2
    refine ⟨(k', e.val) :: xs, .cons (x := (k', e.val)) h3 h4 t, .cons ki rfl p, fun e' he => ?_⟩
    rcases List.mem_cons.mp he with rfl | he
    · refine ⟨k', ki, ?_⟩
      rw [kD_key] at h6; cases h6
      rw [h7]
      cases k' <;> rfl
    · exact q e' he
theorem LL3.es {P : Program} : ∀ {ks ds : List D} {kvs : List (Key × Value)} {es : List DictEntry}, LL3 mg w g H ks ds kvs → Pairs (mixKind P w.1) es kvs → (∀ e ∈ es, ∃ k, keyIs k e.key = true ∧ e.hash = keyH w.1 k) → RepEs mg w g H ks ds es
  | _, _, _, _, .nil, p, _ => by cases p; exact .nil
  | _, _, _, _, .cons (x := x) h1 h2 h3, p, q => by
    cases p with
    | @cons e kv es kvs p1 p2 p3 =>
      obtain ⟨k, q1, q2⟩ := q e (List.mem_cons_self ..)
      have p1 : keyIs x.1 e.key = true := p1
      have ek : k = x.1 := (mixKind P w.1).inj e.key k x.1 q1 p1
      subst ek
      have r := LL3.es (P := P) h3 p3 fun e' he => q e' (List.mem_cons_of_mem _ he)
      rcases keyIs_shape p1 with ⟨i, t, e1, e2⟩ | ⟨y, t, e1, e2⟩
      · rw [e1] at q2 ⊢
        exact .cons (.int i) ⟨t, e2⟩ h1 (by rw [p2]; exact h2) rfl rfl q2 r
      · rw [e1] at q2 ⊢
        exact .cons (.str y) ⟨t, e2⟩ h1 (by rw [p2]; exact h2) rfl rfl q2 r
theorem valueAt_cons {x : Key × Value} {xs : List (Key × Value)} {k : Key} : valueAt (x :: xs) k = if x.1 = k then some x.2 else valueAt xs k := by
  unfold valueAt
  rw [List.find?_cons]
  by_cases h : x.1 = k
  · rw [if_pos h, decide_eq_true h]; rfl
  · rw [if_neg h, decide_eq_false h]
theorem LL3.nod : ∀ {ks ds : List D} {xs : List (Key × Value)}, LL3 mg w g H ks ds xs → ks = xs.map fun x => kD x.1
  | _, _, _, .nil => rfl
  | _, _, _, .cons _ _ h => by rw [List.map_cons, LL3.nod h]
theorem LL3.at {k : Key} {d : D} : ∀ {ks ds : List D} {xs : List (Key × Value)} {i : Nat}, LL3 mg w g H ks ds xs → (ks.map D.key).Nodup → ks[i]? = some (kD k) → ds[i]? = some d →
    ∃ u dv, valueAt xs k = some u ∧ Rep mg w g H d dv ∧ RelV dv u
  | _, _, _, i, .nil, _, h, _ => by simp at h
  | _, _, _, 0, .cons (x := x) (dv := dv) h1 h2 h3, n, h, h' => by
    simp at h h'; subst h'
    have h := kD_inj h
    exact ⟨x.2, dv, by rw [valueAt_cons, if_pos h], h1, h2⟩
  | _, _, _, i + 1, .cons (x := x) h1 h2 h3, n, h, h' => by
    rw [List.map_cons, List.nodup_cons] at n
    obtain ⟨p, dv, e, r⟩ := LL3.at h3 n.2 (by simpa using h) (by simpa using h')
    refine ⟨p, dv, ?_, r⟩
    rw [valueAt_cons, if_neg, e]
    intro e2
    exact n.1 (by rw [e2]; exact List.mem_map.mpr ⟨kD k, List.mem_of_getElem? (by simpa using h), rfl⟩)
theorem LL3.none {k : Key} : ∀ {ks ds : List D} {xs : List (Key × Value)}, LL3 mg w g H ks ds xs → kD k ∉ ks → valueAt xs k = none
  | _, _, _, .nil, _ => rfl
  | _, _, _, .cons h1 h2 h3, h => by
    rw [valueAt_cons, if_neg, LL3.none h3 fun z => h (List.mem_cons_of_mem _ z)]
    intro e2
    exact h (List.mem_cons.mpr (.inl (by rw [e2])))
theorem LL3.put {k : Key} {d : D} {dv : V} {u : Value} (r1 : Rep mg w g H d dv) (r2 : RelV dv u) : ∀ {ks ds : List D} {xs : List (Key × Value)} {i : Nat}, LL3 mg w g H ks ds xs → (ks.map D.key).Nodup → ks[i]? = some (kD k) →
    LL3 mg w g H ks (ds.set i d) (xs.map fun kv => if kv.1 = k then (kv.1, u) else kv)
  | _, _, _, i, .nil, _, h => by simp at h
  | _, _, _, 0, .cons (x := x) (ks := ks) (xs := xs) h1 h2 h3, n, h => by
    simp at h
    have h := kD_inj h
    subst h
    have e : (xs.map fun kv => if kv.1 = x.1 then (kv.1, u) else kv) = xs := by
      rw [List.map_cons, List.nodup_cons] at n
      refine (List.map_congr_left (g := id) fun y hy => ?_).trans (List.map_id _)
      show (if y.1 = x.1 then _ else _) = y
      rw [if_neg]
      intro e
      refine n.1 ?_
      rw [h3.nod, List.map_map]
      exact List.mem_map.mpr ⟨y, hy, by show D.key (kD y.1) = _; rw [e]⟩
    rw [List.map_cons, e, List.set_cons_zero, if_pos rfl]
    exact .cons (x := (x.1, u)) r1 r2 h3
  | _, _, _, i + 1, .cons (x := x) h1 h2 h3, n, h => by
    rw [List.map_cons, List.nodup_cons] at n
    have q := LL3.put r1 r2 h3 n.2 (by simpa using h)
    rw [List.map_cons, if_neg, List.set_cons_succ]
    · exact .cons h1 h2 q
    · intro e
      exact n.1 (by rw [e]; exact List.mem_map.mpr ⟨kD k, List.mem_of_getElem? (by simpa using h), rfl⟩)
theorem LL3.app {k : Key} {d : D} {dv : V} {u : Value} (r1 : Rep mg w g H d dv) (r2 : RelV dv u) : ∀ {ks ds : List D} {xs : List (Key × Value)}, LL3 mg w g H ks ds xs →
    LL3 mg w g H (ks ++ [kD k]) (ds ++ [d]) (xs ++ [(k, u)])
  | _, _, _, .nil => .cons (x := (k, u)) r1 r2 .nil
  | _, _, _, .cons h1 h2 h3 => .cons h1 h2 (LL3.app r1 r2 h3)
theorem LL3.len : ∀ {ks ds : List D} {xs : List (Key × Value)}, LL3 mg w g H ks ds xs → xs.length = ks.length ∧ ds.length = ks.length
  | _, _, _, .nil => ⟨rfl, rfl⟩
  | _, _, _, .cons _ _ h6 => ⟨by rw [List.length_cons, List.length_cons, (LL3.len h6).1], by rw [List.length_cons, List.length_cons, (LL3.len h6).2]⟩
end
end VC

set_option Elab.async false
set_option linter.all false
set_option maxRecDepth 100000
set_option maxHeartbeats 4000000
/-! VS: dicts in expressions. -/
namespace VC
open PySem PySem.Spec PyProof.Rows L2
section
variable {X : Cx} {pins : List (Addr × Obj)} {s : Shared} {σ : L2.St} {H : Hp} {mg : Str → Option Value} {w : WK} {g : Gh} {a : Addr} {es : List DictEntry} {ep : Nat} {ks ds : List D}
theorem Inv.dct (I : Inv X pins σ H s) (h : H a = some (.ext (DictAt a (es, ep)))) : ∃ o, s.heap.get? a = some o ∧ o.ExactDict ∧ o.data = .dict es.toArray ep := (I.hok a _ h).1
theorem Inv.dctH (I : Inv X pins σ H s) (h : H a = some (.ext (DictAt a (es, ep)))) (r : RepEs X.mg X.wk g H ks ds es) (n : (ks.map D.key).Nodup) (hT : ∀ q ∈ ks, q.isT = true) :
    ∃ xs, TT3 X.mg X.wk g H ks ds xs ∧ es = xs.map (entryOfKey (nestedKind X.prog X.w)) ∧ s.heap.DictOfH (nestedKind X.prog X.w) a xs := by
  obtain ⟨o, h1, h2, h3⟩ := Inv.dct I h
  obtain ⟨xs, t, e⟩ := RepEs.tt (X := X) r hT
  exact ⟨xs, t, e, o, es.toArray, ep, h1, h2, h3, by simpa using e, TT3.is (w := X.wk) I t, nodup_of t.keys n⟩
theorem nodup_kv {xs : List (Key × Value)} (n : ((xs.map fun x => kD x.1).map D.key).Nodup) : (xs.map (·.1)).Nodup := by
  rw [List.map_map] at n
  refine List.pairwise_map.mpr ((List.pairwise_map.mp n).imp fun h e => h ?_)
  show D.key (kD _) = D.key (kD _)
  rw [e]
theorem Inv.dctL (I : Inv X pins σ H s) (h : H a = some (.ext (DictAt a (es, ep)))) (r : RepEs X.mg X.wk g H ks ds es) (n : (ks.map D.key).Nodup) (hL : ∀ q ∈ ks, q.isL = true) :
    ∃ xs, LL3 X.mg X.wk g H ks ds xs ∧ s.heap.DictOf (mixKind X.prog X.w) a xs := by
  obtain ⟨o, h1, h2, h3⟩ := Inv.dct I h
  obtain ⟨xs, t, p, q⟩ := RepEs.ll (P := X.prog) r hL
  refine ⟨xs, t, o, es.toArray, ep, h1, h2, h3, fun e he => q e (by simpa using he), by simpa using p, nodup_kv ?_⟩
  rw [← t.nod]; exact n
theorem mem_ix {k : D} (h : k ∈ ks) : ∃ i : Nat, ks[i]? = some k := by
  obtain ⟨i, hi, e⟩ := List.mem_iff_getElem.mp h
  exact ⟨i, by rw [List.getElem?_eq_getElem hi, e]⟩
theorem Cont.isT {k : D} {x : V} (c : Cont mg w g H k x) (h : k.isT = true) : ∃ b, x = .ref b ∧ Rep mg w g H k x := by
  cases k <;> simp [D.isT] at h
  rcases c with r | ⟨b, m, h1, h2, h3⟩
  · cases r with
    | @tup b vs ds h1 h2 => exact ⟨b, rfl, .tup h1 h2⟩
  · cases m <;> cases h2
theorem Cont.isL {k : D} {x : V} (c : Cont mg w g H k x) (h : k.isL = true) : Rep mg w g H k x := by
  cases k <;> simp [D.isL] at h
  · rw [c.int]; exact .int _
  · rw [c.str]; exact .str _
/-! ### in -/
def opInX (neg : Bool) : O2 := fun d e K => match e with
  | .dct ks vs => (kok d 8 = true ∧ Kinds ks d ∧ vs.length = ks.length) ∧ ∀ b : Bool, (b = true ↔ d ∈ ks) → K (.val (.bl (if neg then !b else b)))
  | e => opIn neg d e K
theorem opInX_mono (neg : Bool) : Mo2 (opInX neg) := fun d e K K' i q => by
  unfold opInX at q ⊢
  split at q
  · exact ⟨q.1, fun b hb => i _ (q.2 b hb)⟩
  · exact opIn_mono neg _ _ _ _ i q
theorem dct_has {k : D} {x : V} {v : Value} {A : Around} {E : Value → Shared → Prop} {Q : Bool → Nat → Prop} (I : Inv X pins σ H s) (hu : A.units + 65 < cLine) (h : H a = some (.ext (DictAt a (es, ep)))) (hs : (a == sysModules) = false) (r : RepEs X.mg X.wk g H ks ds es) (n : (ks.map D.key).Nodup) (hk : kok k 8 = true) (kd : Kinds ks k) (hl : ds.length = ks.length)
    (c : Cont X.mg X.wk g H k x) (rv : RelV x v) : ∃ b : Bool, (b = true ↔ k ∈ ks) ∧ ∀ (neg : Bool) (Q : Value → Shared → Prop), (∀ t, Q (.bool (if neg then !b else b)) { s with toks := t }) → wpAny (model X.prog X.w) A (compareOp (if neg then .NotIn else .In) v (.ref a)) Q E s := by
  obtain ⟨nk, ek, _⟩ := kok_key k 8 hk
  rcases kd with ⟨h1, h2⟩ | ⟨h1, h2⟩
  · obtain ⟨b, rfl, rk⟩ := c.isT h1
    cases rv
    obtain ⟨xs, t, e, dd⟩ := Inv.dctH I h r n h2
    have is : (nestedKind X.prog X.w).is s.heap nk b := by
      obtain ⟨nk', e1, e2⟩ := kok_key k 8 hk
      rw [ek] at e1; cases e1
      exact ⟨Rep.nested I rk ek rfl, e2⟩
    have hu' : (nestedKind X.prog X.w).room A.in1 := by show A.units + 1 + 8 < cLine; omega
    refine ⟨(atKey xs nk).isSome, ⟨fun z => ?_, fun z => ?_⟩, fun neg Q q => ?_⟩
    · refine Classical.byContradiction fun hn => ?_
      rw [TT3.none hk ek t hn] at z; cases z
    · obtain ⟨i, hi⟩ := mem_ix z
      have hi' : i < ds.length := by rw [hl]; exact (List.getElem?_eq_some_iff.mp hi).1
      obtain ⟨p, dv, e1, _⟩ := TT3.at ek t n hi (List.getElem?_eq_getElem hi')
      rw [e1]; rfl
    · have dk : s.heap.DictKeyed (nestedKind X.prog X.w) a (pairsH xs) := ⟨xs, dd, rfl⟩
      have ev : (valueAt (pairsH xs) nk).isSome = (atKey xs nk).isSome := by rw [valueAt_pairsH, Option.isSome_map]
      cases neg with
      | false => exact in_keyed hu' is hs dk (by rw [ev]; exact q _)
      | true => exact notIn_keyed hu' is hs dk (by rw [ev]; exact q _)
  · obtain ⟨kk, rfl⟩ := kD_of h1
    have ki : keyIs kk v = true := keyIs_of (P := X.prog) (w := X.w) (c.isL h1) rv
    obtain ⟨xs, t, dd⟩ := Inv.dctL I h r n h2
    refine ⟨(valueAt xs kk).isSome, ⟨fun z => ?_, fun z => ?_⟩, fun neg Q q => ?_⟩
    · refine Classical.byContradiction fun hn => ?_
      rw [LL3.none t hn] at z; cases z
    · obtain ⟨i, hi⟩ := mem_ix z
      have hi' : i < ds.length := by rw [hl]; exact (List.getElem?_eq_some_iff.mp hi).1
      obtain ⟨p, dv, e1, _⟩ := LL3.at t n hi (List.getElem?_eq_getElem hi')
      rw [e1]; rfl
    · cases neg with
      | false => exact wpAny_in_of (knd := mixKind X.prog X.w) ki hs dd.mapOf (q _)
      | true => exact wpAny_notIn_of (knd := mixKind X.prog X.w) ki hs dd.mapOf (q _)
end
section
variable {X : Cx} {a : Addr} {es : List DictEntry} {ep : Nat} {ks ds : List D}
theorem o_inX (neg : Bool) (hi : Op2 X (compareOp (if neg then .NotIn else .In)) (opIn neg)) (hu : X.A.units + 65 < cLine) : Op2 X (compareOp (if neg then .NotIn else .In)) (opInX neg) := by
  refine ⟨opInX_mono _, fun pins s σ H g d e x y v u K I tr c1 c2 r1 r2 q => ?_⟩
  unfold opInX at q
  split at q
  · obtain ⟨⟨q1, q2, q3⟩, q⟩ := q
    obtain ⟨a, es, ep, rfl, h1, h2, h3, h4⟩ := c2.dct
    cases r2
    obtain ⟨b, hb, z⟩ := dct_has (A := X.A) (E := X.xe) (Q := fun _ _ => True) I hu h1 h2 h3 h4 q1 q2 q3 c1 r1
    exact z neg _ fun t => ⟨.bl _, H, I.tok t, rfl, rk_bl (q b hb)⟩
  · exact hi.run pins s σ H g _ _ x y v u K I tr c1 c2 r1 r2 q
theorem o_inXf (hu : X.A.units + 65 < cLine) : Op2 X (compareOp .In) (opInX false) := o_inX false (o_in hu) hu
theorem o_inXt (hu : X.A.units + 65 < cLine) : Op2 X (compareOp .NotIn) (opInX true) := o_inX true (o_notin hu) hu
/-! ### d[k] -/
def opIxX : O2 := fun d e K => match d with
  | .dct ks vs => (kok e 8 = true ∧ Kinds ks e) ∧ ∃ (i : Nat) (x : D), ks[i]? = some e ∧ vs[i]? = some x ∧ K (.val x)
  | d => opIx d e K
theorem opIxX_mono : Mo2 opIxX := fun d e K K' i q => by
  unfold opIxX at q ⊢
  split at q
  · obtain ⟨h, j, x, h1, h2, q⟩ := q
    exact ⟨h, j, x, h1, h2, i _ q⟩
  · exact opIx_mono _ _ _ _ i q
theorem dct_at {pins : List (Addr × Obj)} {s : Shared} {σ : L2.St} {H : Hp} {g : Gh} {k d : D} {x : V} {v : Value} {i : Nat} {A : Around} {E : Value → Shared → Prop} (I : Inv X pins σ H s) (hu : A.units + 65 < cLine) (h : H a = some (.ext (DictAt a (es, ep)))) (r : RepEs X.mg X.wk g H ks ds es) (n : (ks.map D.key).Nodup) (hk : kok k 8 = true) (kd : Kinds ks k)
    (c : Cont X.mg X.wk g H k x) (rv : RelV x v) (hi : ks[i]? = some k) (hd : ds[i]? = some d) : ∃ dv u, Rep X.mg X.wk g H d dv ∧ RelV dv u ∧ s.TypeIs (.ref a) "dict" ∧ ∀ (Q : Value → Shared → Prop), (∀ t, Q u { s with toks := t }) → wpAny (model X.prog X.w) A (getItem (.ref a) v) Q E s := by
  obtain ⟨nk, ek, _⟩ := kok_key k 8 hk
  rcases kd with ⟨h1, h2⟩ | ⟨h1, h2⟩
  · obtain ⟨b, rfl, rk⟩ := c.isT h1
    cases rv
    obtain ⟨xs, t, e, dd⟩ := Inv.dctH I h r n h2
    have is : (nestedKind X.prog X.w).is s.heap nk b := by
      obtain ⟨nk', e1, e2⟩ := kok_key k 8 hk
      rw [ek] at e1; cases e1
      exact ⟨Rep.nested I rk ek rfl, e2⟩
    have hu' : (nestedKind X.prog X.w).room A.in1 := by show A.units + 1 + 8 < cLine; omega
    obtain ⟨p, dv, e1, r1, r2⟩ := TT3.at ek t n hi hd
    have dk : s.heap.DictKeyed (nestedKind X.prog X.w) a (pairsH xs) := ⟨xs, dd, rfl⟩
    exact ⟨dv, p.2, r1, r2, dk.typeIs, fun Q q => getItem_keyed hu' is dk (by rw [valueAt_pairsH, e1]; rfl) (q _)⟩
  · obtain ⟨kk, rfl⟩ := kD_of h1
    have ki : keyIs kk v = true := keyIs_of (P := X.prog) (w := X.w) (c.isL h1) rv
    obtain ⟨xs, t, dd⟩ := Inv.dctL I h r n h2
    obtain ⟨u, dv, e1, r1, r2⟩ := LL3.at t n hi hd
    exact ⟨dv, u, r1, r2, dd.mapOf.typeIs, fun Q q => wpAny_getItem_of (knd := mixKind X.prog X.w) ki dd.mapOf e1 (q _)⟩
theorem o_ixX (hu : X.A.units + 65 < cLine) : Ix2 X opIxX := by
  refine ⟨opIxX_mono, fun value slice pins s σ H x y v u Q I rx ry h hs => ?_⟩
  obtain ⟨g, d, e, K, tr, c1, c2, q, fin⟩ := h
  unfold opIxX at q
  split at q
  · obtain ⟨⟨q1, q2⟩, i, z, q3, q4, q⟩ := q
    obtain ⟨a, es, ep, rfl, h1, h2, h3, h4⟩ := c1.dct
    cases rx
    obtain ⟨dv, w', r1, r2, ty, go⟩ := dct_at (A := X.A) (E := X.xe) I hu h1 h3 h4 q1 q2 c2 ry q3 q4
    refine subscriptTail_builtinR (x := w') ty PySem.F.slot_dict_getitem.lookup (go _ fun t => ⟨rfl, ?_⟩) hs
    exact ⟨dv, H, I.tok t, r2, fin _ _ (rk_rep r1 q)⟩
  · exact o_ixSeq.ix value slice pins s σ H x y v u Q I rx ry ⟨g, _, _, K, tr, c1, c2, q, fin⟩ hs
end
end VC

set_option Elab.async false
set_option linter.all false
set_option maxRecDepth 100000
set_option maxHeartbeats 4000000
/-! VT: d[k] = v; displays of dicts; len. -/
namespace VC
open PySem PySem.Spec PyProof.Rows L2
theorem dictAt_stays {a : Addr} {es : List DictEntry × Nat} (h1 h2 : Heap) (p : DictAt a es h1) (k : ∀ o, h1.get? a = some o → h2.get? a = some o) : DictAt a es h2 := let ⟨o, e, r⟩ := p; ⟨o, k o e, r⟩
theorem dictAt_ok {P : Program} {w : World} {H : Hp} {h : Heap} {a : Addr} {es : List DictEntry × Nat} (p : DictAt a es h) : ObjOk P w H h a (.ext (DictAt a es)) := ⟨p, let ⟨o, e, _⟩ := p; ⟨o, e⟩, dictAt_stays⟩
section
variable {X : Cx} {pins : List (Addr × Obj)} {s : Shared} {σ : L2.St} {H : Hp} {mg : Str → Option Value} {w : WK} {g : Gh} {a : Addr} {es : List DictEntry} {ep : Nat} {ks ds : List D} {k d : D}
theorem RepEs.koks : ∀ {ks ds : List D} {es : List DictEntry}, RepEs mg w g H ks ds es → (∀ q ∈ ks, kok q 8 = true) ∧ ds.length = ks.length ∧ es.length = ks.length
  | _, _, _, .nil => ⟨fun q h => by simp at h, rfl, rfl⟩
  | _, _, _, .cons h1 h2 h3 h4 h5 h6 h7 h8 => by
    obtain ⟨i1, i2, i3⟩ := RepEs.koks h8
    refine ⟨fun q hq => ?_, by simp [i2], by simp [i3]⟩
    rcases List.mem_cons.mp hq with rfl | hq
    · exact h5
    · exact i1 q hq
theorem nodup_app (hk : ∀ q ∈ ks, kok q 8 = true) (n : (ks.map D.key).Nodup) (k1 : kok k 8 = true) (h : k ∉ ks) : ((ks ++ [k]).map D.key).Nodup := by
  rw [List.map_append, List.nodup_append]
  refine ⟨n, by simp, fun x hx y hy => ?_⟩
  obtain ⟨q, hq, rfl⟩ := List.mem_map.mp hx
  simp at hy
  subst hy
  intro e
  exact h (key_inj _ _ _ _ k1 (hk q hq) e.symm ▸ hq)
/-- d[k] = v in the heap -/
theorem dct_set {x y : V} {v u : Value} {A : Around} {E : Value → Shared → Prop} {Q : Unit → Shared → Prop} (I : Inv X pins σ H s) (hu : A.units + 65 < cLine) (h : H a = some (.ext (DictAt a (es, ep)))) (hs : (a == sysModules) = false) (r : RepEs X.mg X.wk g H ks ds es) (n : (ks.map D.key).Nodup) (hk : kok k 8 = true) (kd : Kinds ks k) (hl : ks.length < 16000000)
    (rk : Rep X.mg X.wk g H k x) (rv : RelV x v) (rd : Rep X.mg X.wk g H d y) (ry : RelV y u)
    (q : (∃ j : Nat, ks[j]? = some k ∧ ∀ es' ep' s', RepEs X.mg X.wk g H ks (ds.set j d) es' → Inv X pins σ (upd H a (.ext (DictAt a (es', ep')))) s' → Q () s') ∨ (k ∉ ks ∧ ∀ es' ep' s', RepEs X.mg X.wk g H (ks ++ [k]) (ds ++ [d]) es' → Inv X pins σ (upd H a (.ext (DictAt a (es', ep')))) s' → Q () s')) :
    wpAny (model X.prog X.w) A (setItem (.ref a) v u) Q E s := by
  obtain ⟨nk, ek, dp⟩ := kok_key k 8 hk
  have mu : Mut (H a) := by rw [h]; exact True.intro
  rcases kd with ⟨h1, h2⟩ | ⟨h1, h2⟩
  · obtain ⟨b, rfl, _⟩ := Cont.isT (.inl rk) h1
    cases rv
    obtain ⟨xs, t, e, dd⟩ := Inv.dctH I h r n h2
    have is : (nestedKind X.prog X.w).is s.heap nk b := ⟨Rep.nested I rk ek rfl, dp⟩
    have hu' : (nestedKind X.prog X.w).room A.in1 := by show A.units + 1 + 8 < cLine; omega
    refine wpAny_setItem_heap (hsz := by rw [t.len.1]; exact Nat.le_of_lt (Nat.lt_of_lt_of_le hl (by decide))) hu' is dd fun h' dd' sb => ?_
    obtain ⟨o, es', ep, e1, e2, e3, e4, _⟩ := dd'
    have pd : DictAt a ((storedH xs nk b u).map (entryOfKey (nestedKind X.prog X.w)), ep) h' := ⟨o, e1, e2, by rw [e3, ← e4]⟩
    have I' : ∀ tk, Inv X pins σ (upd H a (.ext (DictAt a ((storedH xs nk b u).map (entryOfKey (nestedKind X.prog X.w)), ep)))) { s with heap := h', toks := tk } := fun tk => d_write I mu sb ⟨o, e1⟩ (dictAt_ok pd)
    rcases q with ⟨j, hj, q⟩ | ⟨hn, q⟩
    · have hj' : j < ds.length := by rw [t.len.2]; exact (List.getElem?_eq_some_iff.mp hj).1
      obtain ⟨p, dv, e5, _⟩ := TT3.at ek t n hj (List.getElem?_eq_getElem hj')
      refine q _ _ _ ?_ (I' _)
      rw [storedH_old e5]
      exact TT3.es (X := X) (TT3.put ek rd ry t n hj)
    · refine q _ _ _ ?_ (I' _)
      rw [storedH_new (TT3.none hk ek t hn)]
      exact TT3.es (X := X) (TT3.app hk ek rk rd ry t)
  · obtain ⟨kk, rfl⟩ := kD_of h1
    have ki : keyIs kk v = true := keyIs_of (P := X.prog) (w := X.w) rk rv
    obtain ⟨xs, t, dd⟩ := Inv.dctL I h r n h2
    refine wpAny_setItem_pairs (hsz := by rw [t.len.1]; exact Nat.le_of_lt (Nat.lt_of_lt_of_le hl (by decide))) (knd := mixKind X.prog X.w) ki dd fun h' dd' sb => ?_
    obtain ⟨o, es', ep, e1, e2, e3, e4, e5, e6⟩ := dd'
    have pd : DictAt a (es'.toList, ep) h' := ⟨o, e1, e2, by rw [e3]⟩
    have I' : ∀ tk, Inv X pins σ (upd H a (.ext (DictAt a (es'.toList, ep)))) { s with heap := h', toks := tk } := fun tk => d_write I mu sb ⟨o, e1⟩ (dictAt_ok pd)
    have hq : ∀ e ∈ es'.toList, ∃ k, keyIs k e.key = true ∧ e.hash = keyH X.w k := fun e he => e4 e (by simpa using he)
    rcases q with ⟨j, hj, q⟩ | ⟨hn, q⟩
    · have hj' : j < ds.length := by rw [t.len.2]; exact (List.getElem?_eq_some_iff.mp hj).1
      obtain ⟨p, dv, e7, _⟩ := LL3.at t n hj (List.getElem?_eq_getElem hj')
      refine q _ _ _ ?_ (I' _)
      have hany : xs.any (fun kv => kv.1 = kk) = true := by
        unfold valueAt at e7
        cases hf : xs.find? fun kv => kv.1 = kk with
        | none => rw [hf] at e7; cases e7
        | some z => exact List.any_eq_true.mpr ⟨z, List.mem_of_find?_eq_some hf, List.find?_some (p := fun kv : Key × Value => decide (kv.1 = kk)) hf⟩
      have e8 : stored xs kk u = xs.map fun kv => if kv.1 = kk then (kv.1, u) else kv := by unfold stored; rw [if_pos hany]
      rw [e8] at e5
      exact LL3.es (P := X.prog) (w := X.wk) (LL3.put rd ry t n hj) e5 hq
    · refine q _ _ _ ?_ (I' _)
      have hany : xs.any (fun kv => kv.1 = kk) = false := by
        rw [List.any_eq_false]
        intro x hx e
        have e : x.1 = kk := of_decide_eq_true e
        exact hn (by rw [t.nod]; exact List.mem_map.mpr ⟨x, hx, by rw [e]⟩)
      have e8 : stored xs kk u = xs ++ [(kk, u)] := by unfold stored; rw [if_neg (by rw [hany]; exact Bool.false_ne_true)]
      rw [e8] at e5
      exact LL3.es (P := X.prog) (w := X.wk) (LL3.app rd ry t) e5 hq
end
section
variable {X : Cx} {B : Hp} {g0 : Gh} {pos : Pos}
/-- d[k] = v for dicts and lists -/
def rSetX (X : Cx) : V → V → V → Hp → (Hp → Prop) → Prop := fun o i v H Q => rSetL o i v H Q ∨
  ∃ a es ep g ks ds k d, o = .ref a ∧ H a = some (.ext (DictAt a (es, ep))) ∧ (a == sysModules) = false ∧ RepEs X.mg X.wk g H ks ds es ∧ (ks.map D.key).Nodup ∧ kok k 8 = true ∧ Kinds ks k ∧ ks.length < 16000000 ∧ Rep X.mg X.wk g H k i ∧ Rep X.mg X.wk g H d v ∧
    ((∃ j : Nat, ks[j]? = some k ∧ ∀ es' ep', RepEs X.mg X.wk g H ks (ds.set j d) es' → Q (upd H a (.ext (DictAt a (es', ep'))))) ∨ (k ∉ ks ∧ ∀ es' ep', RepEs X.mg X.wk g H (ks ++ [k]) (ds ++ [d]) es' → Q (upd H a (.ext (DictAt a (es', ep'))))))
theorem set_x (hu : X.A.units + 65 < cLine) : PSet X (rSetX X) := by
  intro pins s σ H o i v ov iv u Q I ro ri rv h
  rcases h with h | ⟨a, es, ep, g, ks, ds, k, d, rfl, h1, h2, h3, h4, h5, h6, h7, h8, h9, q⟩
  · exact set_list pins s σ H o i v ov iv u Q I ro ri rv h
  · cases ro
    refine dct_set (A := X.A) (E := X.xe) I hu h1 h2 h3 h4 h5 h6 h7 h8 ri h9 rv ?_
    rcases q with ⟨j, hj, q⟩ | ⟨hn, q⟩
    · exact .inl ⟨j, hj, fun es' ep' s' r' I' => ⟨_, I', q es' ep' r'⟩⟩
    · exact .inr ⟨hn, fun es' ep' s' r' I' => ⟨_, I', q es' ep' r'⟩⟩
def wSetX (i : Nat) (We : WE) (Wk : WO) : WS := fun D env S => We env S fun t env1 S1 => match slot env1 i with
  | some (.own (.dct ks ds)) => Wk env1 S1 fun k env2 S2 => (slot env2 i = some (.own (.dct ks ds)) ∧ kok k 8 = true ∧ Kinds ks k ∧ ks.length < 200000) ∧
      ((∃ j : Nat, ks[j]? = some k ∧ D.nx (env2.set i (some (.own (.dct ks (ds.set j t.d))))) S2) ∨ (k ∉ ks ∧ D.nx (env2.set i (some (.own (.dct (ks ++ [k]) (ds ++ [t.d]))))) S2))
  | some (.own (.lst ds)) => Wk env1 S1 fun k env2 S2 => match k with
    | .int j => (slot env2 i = some (.own (.lst ds))) ∧ setD ds j t.d fun ds' => D.nx (env2.set i (some (.own (.lst ds')))) S2
    | _ => False
  | some (.val (.ref r)) => Wk env1 S1 fun k env2 S2 => match k, S2[r]? with
    | .int j, some (.lst ds) => setD ds j t.d fun ds' => D.nx env2 (S2.set r (.lst ds'))
    | _, _ => False
  | _ => False
theorem vs_setX {i : Nat} {e o k : Expr} {We : WE} {Wk : WO} {p : Pos} (he : VE X B g0 e We) (ho : PE X o (tVar i)) (hk : VO X B g0 k Wk)
    (hp : ∀ te to ti, PE X e te → PE X o to → PE X k ti → PS X (.Assign [.Subscript o k p] e pos) (tAsg te (gSub to ti (rSetX X)))) : VS X B g0 (.Assign [.Subscript o k p] e pos) (wSetX i We Wk) := by
  refine VS.of (fun _ _ _ _ kk q => he.mono _ _ _ _ (fun t _ _ q => ?_) q) (hp _ _ _ he.pe ho hk.pe) fun σ H env S g De R q => ?_
  · split at q
    · exact hk.mono _ _ _ _ (fun x _ _ q => ⟨q.1, q.2.imp (fun ⟨j, h, q⟩ => ⟨j, h, kk.nx _ _ q⟩) (fun ⟨h, q⟩ => ⟨h, kk.nx _ _ q⟩)⟩) q
    · exact hk.mono _ _ _ _ (fun x _ _ q => by
        split at q
        · exact ⟨q.1, setD_mono (fun _ => kk.nx _ _) q.2⟩
        · exact q) q
    · exact hk.mono _ _ _ _ (fun x _ _ q => by
        split at q
        · exact setD_mono (fun _ => kk.nx _ _) q
        · exact q) q
    · exact q
  · refine ⟨env, S, g, _, R, q, fun v H1 ⟨g1, t, env1, S1, st1, R1, rt, q1⟩ => ?_⟩
    obtain ⟨g1', st1', R1', rv⟩ := rt.hold R1
    dsimp only at q1
    split at q1
    · rename_i ks ds hsl
      obtain ⟨a, hv, hm, _⟩ := R1'.own i _ (slot_get hsl)
      refine ⟨_, hv, env1, S1, g1', _, R1', q1, fun kv H2 ⟨g2, kd, env2, S2, st2, R2, t2, q2⟩ => ?_⟩
      obtain ⟨⟨hs2, hk1, hk2, hlen⟩, q2⟩ := q2
      obtain ⟨a2, hv2, ⟨es, ep, h1, h1', h2, h2'⟩, n1, n2, n3⟩ := R2.own i _ (slot_get hs2)
      rw [hv] at hv2; cases hv2
      have rv2 := rv.mono st2.toFz
      have rk : Rep X.mg X.wk g2 H2 kd kv := by
        have cc := t2.cont R2.sto
        have ed : dr S2 kd = kd := by
          rcases hk2 with ⟨h, _⟩ | ⟨h, _⟩
          · cases kd <;> first | rfl | simp [D.isT] at h
          · cases kd <;> first | rfl | simp [D.isL] at h
        rw [ed] at cc
        rcases hk2 with ⟨h, _⟩ | ⟨h, _⟩
        · exact (cc.isT h).choose_spec.2
        · exact cc.isL h
      have kks := h2.koks
      have fin : ∀ ks' ds' es' ep', RepEs X.mg X.wk g2 H2 ks' ds' es' → (ks'.map D.key).Nodup → De.nx (env2.set i (some (.own (.dct ks' ds')))) S2 → NQ X B g0 g H De.nx σ (upd H2 a (.ext (DictAt a (es', ep')))) := fun ks' ds' es' ep' r n q => by
        have z := Fz.upd (g := g2) (u := HO.ext (DictAt a (es', ep'))) h1 (fun _ q => nomatch q) n2
        obtain ⟨RP, z'⟩ := R2.mutOwn (m' := .dct ks' ds') (slot_get hs2) hv ⟨es', ep', upd_same, h1', r.mono z, n⟩
        exact ⟨g2, _, S2, ((st1.trans st1').trans st2).toFz.trans z', RP, q⟩
      refine .inr ⟨a, es, ep, g2, ks, ds, kd, t.d, rfl, h1, h1', h2, h2', hk1, hk2, Nat.lt_of_lt_of_le hlen (by decide), rk, rv2, ?_⟩
      rcases q2 with ⟨j, hj, q2⟩ | ⟨hn, q2⟩
      · exact .inl ⟨j, hj, fun es' ep' r => fin _ _ es' ep' r h2' q2⟩
      · exact .inr ⟨hn, fun es' ep' r => fin _ _ es' ep' r (nodup_app kks.1 h2' hk1 hn) q2⟩
    · rename_i ds hsl
      obtain ⟨a, hv, hm, _⟩ := R1'.own i _ (slot_get hsl)
      refine ⟨_, hv, env1, S1, g1', _, R1', q1, fun kv H2 ⟨g2, kd, env2, S2, st2, R2, t2, q2⟩ => .inl ?_⟩
      dsimp only at q2
      split at q2
      · obtain ⟨hs2, q2⟩ := q2
        have hkv := (t2.cont R2.sto)
        have : kv = .int _ := Cont.int (by simpa [dr] using hkv)
        subst this
        unfold setD at q2
        split at q2
        · rename_i j hj
          obtain ⟨a2, hv2, ⟨vs, h1, h2⟩, n1, n2, n3⟩ := R2.own i _ (slot_get hs2)
          rw [hv] at hv2; cases hv2
          have rv2 := rv.mono st2.toFz
          have z := Fz.upd (g := g2) (u := HO.lst (vs.set j v)) h1 (fun _ q => nomatch q) n2
          obtain ⟨RP, z'⟩ := R2.mutOwn (m' := .lst (ds.set j t.d)) (slot_get hs2) hv ⟨_, upd_same, (RepAll.set rv2 j h2).mono z⟩
          exact ⟨a, vs, _, j, rfl, rfl, h1, by rw [← h2.length]; exact placeD_ix hj, g2, _, S2, ((st1.trans st1').trans st2).toFz.trans z', RP, q2⟩
        · exact q2.elim
      · exact q2.elim
    · rename_i r hsl
      obtain ⟨v0, hv, hr⟩ := R1'.val i _ (slot_get hsl)
      cases hr with
      | @ref _ a ha =>
        refine ⟨_, hv, env1, S1, g1', _, R1', q1, fun kv H2 ⟨g2, kd, env2, S2, st2, R2, t2, q2⟩ => .inl ?_⟩
        dsimp only at q2
        split at q2
        · rename_i jj ds hS2
          have hkv := (t2.cont R2.sto)
          have : kv = .int _ := Cont.int (by simpa [dr] using hkv)
          subst this
          unfold setD at q2
          split at q2
          · rename_i j hj
            have ha2 := st2.toFz.get ha
            obtain ⟨vs, h1, h2⟩ := R2.sto.at_ r a _ ha2 hS2
            have rv2 := rv.mono st2.toFz
            have z := Fz.upd (g := g2) (u := HO.lst (vs.set j v)) h1 (fun _ q => nomatch q) (R2.sto.nF a (List.mem_of_getElem? ha2))
            obtain ⟨RP, z'⟩ := R2.mutSto (m' := .lst (ds.set j t.d)) hS2 ha2 ⟨_, upd_same, (RepAll.set rv2 j h2).mono z⟩
            exact ⟨a, vs, _, j, rfl, rfl, h1, by rw [← h2.length]; exact placeD_ix hj, g2, _, _, ((st1.trans st1').trans st2).toFz.trans z', RP, q2⟩
          · exact q2.elim
        · exact q2.elim
    · exact q1.elim
/-! ### {} -/
def wDct0 : WE := fun env S Q => Q (.own (.dct [] [])) env S
end
end VC

set_option Elab.async false
set_option linter.all false
set_option maxRecDepth 100000
set_option maxHeartbeats 4000000
/-! VU: {k: v}. -/
namespace VC
open PySem PySem.Spec PyProof.Rows L2
section
variable {X : Cx} {B : Hp} {g0 : Gh} {k v : Expr} {pos : Pos}
def wDct1 (isT : Bool) (Wk Wv : WE) : WE := fun env S Q => Wk env S fun tk env1 S1 => Wv env1 S1 fun tv env2 S2 => (kok tk.d 8 = true ∧ (if isT then tk.d.isT else tk.d.isL) = true) ∧ Q (.own (.dct [tk.d] [tv.d])) env2 S2
theorem pe_u {e : Expr} {W : WE} (h : ∀ B' g', VE X B' g' e W) : PE X e (tEu X W) := ⟨fun pins s σ H Q I ⟨B', g', q⟩ => (h B' g').pe.run pins s σ H Q I q⟩
/-- what stands behind the two -/
def D1Q (X : Cx) (B : Hp) (g0 : Gh) (g : Gh) (H : Hp) (σ : L2.St) (isT : Bool) (Q : T → VEnv → Sto → Prop) (p : Addr) : List (V × V) → Hp → Prop := fun ps H2 => ∃ x y g2 dk dv env2 S2, ps = [(x, y)] ∧ Rp X.mg X.wk B g0 g2 H2 σ env2 S2 ∧ Stp g H g2 H2 ∧ H2 p = some (.ext (DictAt p ([], 0))) ∧ (p == sysModules) = false ∧ B p = none ∧ ¬ g2.F p ∧ p ∉ g2.ρ ∧ ¬ OwnAt σ env2 p ∧ H p = none ∧
  Rep X.mg X.wk g2 H2 dk x ∧ Rep X.mg X.wk g2 H2 dv y ∧ kok dk 8 = true ∧ (if isT then dk.isT else dk.isL) = true ∧ Q (.own (.dct [dk] [dv])) env2 S2
end
end VC

set_option Elab.async false
set_option linter.all false
set_option maxRecDepth 100000
set_option maxHeartbeats 4000000
/-! VV: chains of three comparisons; chains as tests. -/
namespace VC
open PySem PySem.Spec PyProof.Rows L2
section
variable {X : Cx} {B : Hp} {g0 : Gh} {a b c d : Expr} {pos : Pos}
def tCh3 (r r' r'' : R2) (ta tb tc td : TE) : TE := fun σ H Q => ta σ H fun x H1 => tb σ H1 fun y H2 => r x y H2 fun z H3 => ∃ k, z = .bl k ∧
  (if k = true then tc σ H3 fun u H4 => r' y u H4 fun z H5 => ∃ k, z = .bl k ∧ (if k = true then td σ H5 fun w' H6 => r'' u w' H6 Q else Q (.bl false) H5) else Q (.bl false) H3)
/-- a o b o' c o'' d -/
def wCh3 (o o' o'' : O2) (Wa Wb Wc Wd : WO) : WE := fun env S Q => Wa env S fun d env1 S1 => Wb env1 S1 fun e env2 S2 => o (dr S2 d) (dr S2 e) fun t => tb t fun k =>
  Ite k (Wc env2 S2 fun f env3 S3 => o' (dr S3 e) (dr S3 f) fun t => tb t fun k => Ite k (Wd env3 S3 fun h env4 S4 => o'' (dr S4 f) (dr S4 h) fun t => Q t env4 S4) (Q (.val (.bl false)) env3 S3)) (Q (.val (.bl false)) env2 S2)
theorem vt_chain {op op' : CmpOp} {o o' : O2} {Wa Wb Wc : WO} (ho : Op2 X (compareOp op) o) (ho' : Op2 X (compareOp op') o') (ha : VO X B g0 a Wa) (hb : VO X B g0 b Wb) (hc : VO X B g0 c Wc)
    (hm : lastMarks [op, op'] [b, c] = false := by with_unfolding_all rfl) : VT X B g0 (.Compare a [op, op'] [b, c] pos) (wTst (wCh o o' Wa Wb Wc)) := by
  have hv := ve_chain (pos := pos) ho ho' ha hb hc hm
  refine VT.of (wTst_mono hv.mono) (pt_chain ho.opr ho'.opr ha.pe hb.pe hc.pe hm) fun σ H env S g Q R q => ?_
  have q : wCh o o' Wa Wb Wc env S (fun t env' S' => tb t fun k => Q k env' S') := q
  refine ⟨env, S, g, _, R, q, fun x H1 ⟨g1, d, env1, S1, st1, R1, t1, q1⟩ => ⟨env1, S1, g1, _, R1, q1, fun y H2 ⟨g2, e, env2, S2, st2, R2, t2, q2⟩ => ?_⟩⟩
  refine ⟨g2, _, _, _, R2.sto.tr, (t1.stp st2).cont R2.sto, t2.cont R2.sto, q2, fun z H3 ⟨t, hn, rr, k⟩ => ?_⟩
  obtain ⟨k', rfl, k⟩ := tb_bl k
  cases rr
  refine ⟨k', rfl, ?_⟩
  have st3 := hn.stp (g := g2) R2.sto.tr
  have R3 := R2.new hn
  cases k' with
  | true =>
    refine ⟨env2, S2, g2, _, R3, k.t, fun z4 H4 ⟨g4, f, env4, S4, st4, R4, t4, q4⟩ => ?_⟩
    refine ⟨g4, _, _, _, R4.sto.tr, ((t2.stp st3).stp st4).cont R4.sto, t4.cont R4.sto, q4, fun z5 H5 ⟨t5, hn5, rr5, k5⟩ => ?_⟩
    obtain ⟨k6, rfl, k5⟩ := tb_bl k5
    cases rr5
    exact ⟨k6, rfl, g4, env4, S4, (((st1.trans st2).trans st3).trans st4).trans (hn5.stp R4.sto.tr), R4.new hn5, k5⟩
  | false =>
    obtain ⟨k6, e6, k5⟩ := tb_bl k.f
    cases e6
    exact ⟨false, rfl, g2, env2, S2, (st1.trans st2).trans st3, R3, k5⟩
end
end VC

set_option Elab.async false
set_option linter.all false
set_option maxRecDepth 100000
set_option maxHeartbeats 4000000
/-! VX: dicts walked; len; lists of dicts. -/
namespace VC
open PySem PySem.Spec PyProof.Rows L2
section
variable {mg : Str → Option Value} {w : WK} {g : Gh} {H : Hp}
theorem RepEs.keysV : ∀ {ks ds : List D} {es : List DictEntry}, RepEs mg w g H ks ds es → ∃ vs, RepAll mg w g H ks vs ∧ Vals vs (es.map (·.key))
  | _, _, _, .nil => ⟨[], .nil, .nil⟩
  | _, _, _, .cons h1 h2 _ _ _ _ _ h8 => by
    obtain ⟨vs, a, b⟩ := RepEs.keysV h8
    exact ⟨_ :: vs, .cons h1 a, .cons h2 b⟩
theorem RepEs.valsV : ∀ {ks ds : List D} {es : List DictEntry}, RepEs mg w g H ks ds es → ∃ vs, RepAll mg w g H ds vs ∧ Vals vs (es.map (·.val))
  | _, _, _, .nil => ⟨[], .nil, .nil⟩
  | _, _, _, .cons _ _ h3 h4 _ _ _ h8 => by
    obtain ⟨vs, a, b⟩ := RepEs.valsV h8
    exact ⟨_ :: vs, .cons h3 a, .cons h4 b⟩
end
/-! ### the keys walked -/
def Itkd (d : Addr) (es : List DictEntry) (ep : Nat) (vs : List V) : It :=
  ⟨fun i H => H d = some (.ext (DictAt d (es, ep))) ∧ i < vs.length, fun i H x H' => H' = H ∧ vs[i]? = some x, fun i H => H d = some (.ext (DictAt d (es, ep))) ∧ vs.length ≤ i⟩
theorem turn_dk {P : Program} {w : World} {K : PySem.W.Frag} {tg : Expr} {es : List DictEntry} {ep : Nat} {vs : List V} (d it : Addr) (r : Vals vs (es.map (·.key))) :
    Turn P w K tg (Itkd d es ep vs) [it] it (fun i h => h.IsKeyIter it d i es.length ep) := by
  have hl : vs.length = es.length := by rw [r.length, List.length_map]
  refine ⟨by simp, fun i h st b hb => ?_, fun i h h' st k => st.at fun oi e => k it (by simp) oi e, ?_, ?_, fun A i s Q E st h => ?_⟩
  · obtain rfl : b = it := List.mem_singleton.mp hb
    obtain ⟨oi, e, c, dd⟩ := st
    exact ⟨oi, e, fun v z => by rw [dd] at z; cases z⟩
  · intro X hP hw hK hc i pins s σ H E I hf st ⟨hd, hi⟩
    subst hP hw hK
    obtain ⟨f0, f1, f2, f3, f4, f5⟩ := hf it (by simp)
    obtain ⟨o, ho, hx, hdt⟩ := Inv.dct I hd
    obtain ⟨u, hu, ru⟩ := r.get (List.getElem?_eq_getElem hi)
    rw [List.getElem?_map, Option.map_eq_some_iff] at hu
    obtain ⟨en, hen, rfl⟩ := hu
    refine next_key_item (en := en) st ho hdt (by simp) (by simpa using hen) fun h' st' sb => ?_
    have I1 : Inv X pins σ H { s with heap := h' } := I.turned (t' := s.toks) (fun b ob hb e => (sb.2 b hb).trans e) f0 f1 f3 f4 f5
    obtain ⟨oi, e, c, dd⟩ := id st'
    exact ⟨en.key, rfl, go_of (s := { s with heap := h' }) e c dd (by decide) ⟨_, H, I1, ru, ⟨rfl, List.getElem?_eq_getElem hi⟩, st', fun b hb => (hf b hb).1⟩⟩
  · intro X hP hw hK hc i pins s σ H E I hf st ⟨hd, hi⟩
    subst hP hw hK
    obtain ⟨f0, f1, f2, f3, f4, f5⟩ := hf it (by simp)
    obtain ⟨o, ho, hx, hdt⟩ := Inv.dct I hd
    exact next_key_end (I.ok.hd hc) st ho hdt (by simp) (by omega) fun h' eb => ⟨rfl, I.turned (t' := s.toks) (fun b ob hb e => eb b ob hb e) f0 f1 f3 f4 f5⟩
  · refine wpAny_pyIter_slot st.typeIs PySem.F.slot_dict_keyiterator_iter (wpAny_call_entry PySem.F.slot_dict_keyiterator_iter st.typeIs PySem.F.entry_dict_keyiterator_iter ?_ (PySem.F.args_dict_keyiterator_iter_1 _))
    exact show wpAny _ _ (ret (.ref it)) _ _ s from wpAny_pure ⟨_, rfl, "dict_keyiterator", _, st.typeIs, PySem.F.slot_dict_keyiterator_next.lookup, h⟩
theorem jok_dk {mg : Str → Option Value} {w : WK} {g : Gh} {H : Hp} {d : Addr} {es : List DictEntry} {ep : Nat} {ks : List D} {vs : List V} (hF : g.F d) (h : H d = some (.ext (DictAt d (es, ep)))) (r : RepAll mg w g H ks vs) : JOk mg w g H (Itkd d es ep vs) ks := by
  intro g' H' z tr i
  have h' := (z.frz d hF).trans h
  have r' := r.mono z
  refine ⟨fun k hk => ?_, fun hl => ⟨h', by rw [← r.length]; omega⟩⟩
  obtain ⟨v, hv, rv⟩ := r'.get hk
  refine ⟨⟨h', (List.getElem?_eq_some_iff.mp hv).1⟩, fun x H2 ⟨e, y⟩ => ?_⟩
  subst e
  rw [hv] at y; cases y
  exact ⟨New.refl _, rv⟩
section
variable {X : Cx} {B : Hp} {g0 : Gh} {tg e a b c : Expr} {es : List Expr} {pos : Pos}
def iWkX (K : PySem.W.Frag) (tl : TE) : TI := fun σ H R => tl σ H fun x H1 => (∃ a xs isL, x = .ref a ∧ SqK isL H1 a xs ∧ R (Itk K isL a) H1) ∨
  ∃ d es ep vs, x = .ref d ∧ H1 d = some (.ext (DictAt d (es, ep))) ∧ (d == sysModules) = false ∧ Vals vs (es.map (·.key)) ∧ R (Itkd d es ep vs) H1
theorem pi_wk {te : TE} (he : PE X e te) : PI X tg e (iWkX X.K te) := by
  refine ⟨fun pins s σ H R I h => ?_⟩
  refine thn (he.run pins s σ H _ I h) fun v s1 ⟨x, H1, I1, r1, q1⟩ => ?_
  rcases q1 with ⟨a, xs, isL, ex, hq, q⟩ | ⟨d, es, ep, vs, ex, hd, hs, rv, q⟩
  · subst ex
    cases r1
    cases isL with
    | true =>
      obtain ⟨its, rv, p, hz⟩ := I1.list (.inl hq)
      exact wpAny_pyIter_list p.isList (pi_one (tk := s1.toks) I1 _ (turn_list a _) ⟨_, Heap.get?_push_size _ rfl, rfl, rfl⟩ q)
    | false =>
      obtain ⟨its, rv, p, hz⟩ := I1.tuple (SqT.at hq)
      exact wpAny_pyIter_tuple (show s1.heap.IsTuple a its.toArray from p) (pi_one (tk := s1.toks) I1 _ (turn_tuple a _) ⟨_, Heap.get?_push_size _ rfl, rfl, rfl⟩ q)
  · subst ex
    cases r1
    obtain ⟨o, ho, hx, hdt⟩ := Inv.dct I1 hd
    exact iter_keys hs ho hx hdt (pi_one (tk := s1.toks) I1 _ (turn_dk d _ rv) ⟨_, Heap.get?_push_size _ rfl, rfl, by simp⟩ q)
/-- what is walked: the items of a list or tuple, the keys of a dict -/
def wkD : D → (List D → Prop) → Prop
  | .tup ds, K => K ds
  | .lst ds, K => K ds
  | .dct ks _, K => K ks
  | _, _ => False
theorem wkD_mono {d : D} {K K' : List D → Prop} (i : ∀ ds, K ds → K' ds) (q : wkD d K) : wkD d K' := by
  unfold wkD at q ⊢
  split at q <;> first | exact i _ q | exact q
theorem wkD_of {d : D} {K : List D → Prop} (q : wkD d K) : ∃ ds, (d = .lst ds ∨ d = .tup ds ∨ ∃ vs, d = .dct ds vs) ∧ K ds := by
  unfold wkD at q
  split at q
  · exact ⟨_, .inr (.inl rfl), q⟩
  · exact ⟨_, .inl rfl, q⟩
  · exact ⟨_, .inr (.inr ⟨_, rfl⟩), q⟩
  · exact q.elim
def iW (W : WE) : WA := fun env S Q => W env S fun t env' S' => wkD t.d fun ds => Q ds env' S'
theorem vi_wk {W : WE} (h : VE X B g0 e W) : VI X B g0 tg e (iW W) := by
  refine VI.of (fun _ _ _ _ i q => h.mono _ _ _ _ (fun _ _ _ q => wkD_mono (fun _ => i _ _ _) q) q) (pi_wk h.pe) fun σ H env S g Q R q => ?_
  refine ⟨env, S, g, _, R, q, fun v H1 ⟨g1, t, env1, S1, st1, R1, rt, q1⟩ => ?_⟩
  obtain ⟨g2, st2, R2, rp⟩ := rt.hold R1
  obtain ⟨ds, hd, q1⟩ := wkD_of q1
  rcases hd with hd | hd | ⟨us, hd⟩
  · rw [hd] at rp
    cases rp with
    | @lst a vs ds h0 h1 h2 => exact .inl ⟨a, vs, true, rfl, h1, g2, _, env1, S1, st1.trans st2, R2, jok_lst h0 h1 h2, q1⟩
  · rw [hd] at rp
    cases rp with
    | @tup a vs ds h1 h2 => exact .inl ⟨a, vs, false, rfl, h1, g2, _, env1, S1, st1.trans st2, R2, jok_tup h1 h2, q1⟩
  · rw [hd] at rp
    cases rp with
    | @dct a ks ds es ep h0 h1 h2 h3 h4 =>
      obtain ⟨vs, r1, r2⟩ := h3.keysV
      exact .inr ⟨a, es, ep, vs, rfl, h1, h2, r2, g2, _, env1, S1, st1.trans st2, R2, jok_dk h0 h1 r1, q1⟩
/-! ### len -/
theorem len_rawD {d : Addr} {A : Around} {E : Value → Shared → Prop} {s : Shared} {es : Array DictEntry} {ep : Nat} {P : Program} {w : World} {Q : Value → Shared → Prop} (hd : (d == sysModules) = false) (hm : s.heap.DictRaw d es ep) (hf : (es.size : Int) < 2 ^ 63)
    (h : ∀ t t', Q (.int es.size t) { s with toks := t' }) : wpAny (model P w) A (call (.builtin "len") [.ref d]) Q E s := by
  refine Calls.call_function_entry PySem.kind_len PySem.plain_len PySem.entry_len (PySem.args_len1 _) ?_
  unfold Builtin.«len»
  refine wpAny_bind (m := oneArg "len" _) (wpAny_pure (wpAny_bind (m := callSpecial? (.ref d) (Str.ofString "__len__")) (wpAny_callSpecial?_slot (name := Str.ofString "__len__") hm.typeIs PySem.F.slot_dict_len (call_len_raw hd hm ?_))))
  refine wpAny_bind (wpAny_holding (wpAny_pure (wpAny_bind (wpAny_letGo ?_))))
  refine show wpAny _ _ (if ((es.size : Nat) : Int) < 0 then _ else _) _ _ _ from ?_
  rw [if_neg (by omega)]
  refine show wpAny _ _ (if ((es.size : Nat) : Int) ≥ 2 ^ 63 then _ else _) _ _ _ from ?_
  rw [if_neg (by omega)]
  exact wpAny_bind (wpAny_mkInt (wpAny_pure ⟨_, rfl, h _ _⟩))
def opLenX : ON
  | [.dct ks vs], K => ks.length ≤ 1000000 ∧ K (.val (.int (ks.length : Int)))
  | ds, K => opLen ds K
theorem RepEs.len {mg : Str → Option Value} {w : WK} {g : Gh} {H : Hp} {ks ds : List D} {es : List DictEntry} (h : RepEs mg w g H ks ds es) : es.length = ks.length := h.koks.2.2
theorem n_lenX : OpN X (.builtin "len") opLenX := by
  refine ⟨fun ds K K' i q => ?_, fun pins s σ H g ds vs us K I tr c r q => ?_⟩
  · unfold opLenX at q ⊢
    split at q
    · exact ⟨q.1, i _ q.2⟩
    · exact n_len.mono (X := X) _ _ _ i q
  · unfold opLenX at q
    split at q
    · obtain ⟨v, rfl, c1⟩ := c.one
      obtain ⟨a, es, ep, rfl, h1, h2, h3, h4⟩ := c1.dct
      obtain ⟨o, ho, hx, hdt⟩ := Inv.dct I h1
      rw [Vals.ref1 r]
      have hl := h3.len
      refine len_rawD h2 ⟨o, ho, hx, hdt⟩ (by simp only [List.size_toArray]; omega) fun t t' => ⟨.int (es.toArray.size : Nat), H, I.tok _, ⟨t, rfl⟩, ?_⟩
      rw [List.size_toArray, hl]
      exact rk_int q.2
    · exact n_len.run pins s σ H g _ _ us K I tr c r q
/-! ### list(d) -/
def opListX : ON
  | [.dct ks vs], K => ks.length ≤ 1000000 ∧ K (.own (.lst ks))
  | ds, K => opList ds K
end
end VC

set_option Elab.async false
set_option linter.all false
set_option maxRecDepth 100000
set_option maxHeartbeats 4000000
/-! VY: sorted. -/
namespace VC
open PySem PySem.Spec PyProof.Rows L2
def srtLe (a b : D) : Bool := PySem.W.dataLe false D.pd a b
@[irreducible] def srtD (ds : List D) : List D := ds.mergeSort srtLe
structure SrtOk (ds : List D) : Prop where
  dat : D.allData ds = true
  al : PySem.W.AllAlike (ds.map D.pd)
  so : PySem.W.Sortable (ds.map D.pd) ∨ ((ds.map D.pd).length ≤ 1 ∧ ∀ d ∈ ds.map D.pd, d ≠ .none)
  dep : ∀ d ∈ ds, d.pd.depth ≤ 60
  len : ds.length ≤ 1000000
section
variable {X : Cx} {pins : List (Addr × Obj)} {s : Shared} {σ : L2.St} {H : Hp} {g : Gh}
theorem allData_mem : ∀ {ds : List D} {d : D}, D.allData ds = true → d ∈ ds → d.isData = true
  | x :: xs, d, h, hm => by
    simp only [D.allData, Bool.and_eq_true] at h
    rcases List.mem_cons.mp hm with rfl | hm
    · exact h.1
    · exact allData_mem h.2 hm
/-- the items: a datum, what it is, its value -/
theorem each_rep {mg : Str → Option Value} {w : WK} : ∀ {ds : List D} {vs : List V} {us : List Value}, RepAll mg w g H ds vs → Vals vs us → PySem.W.EachIs (fun u (p : D × V) => RelV p.2 u) us (ds.zip vs)
  | _, _, _, .nil, r => by cases r; exact .nil
  | _, _, _, .cons h t, r => by
    cases r with
    | cons r1 r2 => exact .cons r1 (each_rep t r2)
theorem zip_fst {α β : Type} : ∀ {as : List α} {bs : List β}, as.length = bs.length → (as.zip bs).map Prod.fst = as
  | [], [], _ => rfl
  | _ :: as, _ :: bs, h => by simp [zip_fst (as := as) (bs := bs) (by simpa using h)]
  | [], _ :: _, h => by simp at h
  | _ :: _, [], h => by simp at h
theorem repAll_zip {mg : Str → Option Value} {w : WK} : ∀ {ds : List D} {vs : List V}, RepAll mg w g H ds vs → ∀ p ∈ ds.zip vs, Rep mg w g H p.1 p.2
  | _, _, .nil, p, h => by simp at h
  | _, _, .cons h t, p, hp => by
    rcases List.mem_cons.mp hp with rfl | hp
    · exact h
    · exact repAll_zip t p hp
theorem repAll_of {mg : Str → Option Value} {w : WK} : ∀ {ps : List (D × V)}, (∀ p ∈ ps, Rep mg w g H p.1 p.2) → RepAll mg w g H (ps.map Prod.fst) (ps.map Prod.snd)
  | [], _ => .nil
  | p :: ps, h => .cons (h p (by simp)) (repAll_of fun q hq => h q (by simp [hq]))
theorem vals_each : ∀ {us : List Value} {ps : List (D × V)}, PySem.W.EachIs (fun u (p : D × V) => RelV p.2 u) us ps → Vals (ps.map Prod.snd) us
  | _, _, .nil => .nil
  | _, _, .cons h t => .cons h (vals_each t)
theorem reads_rep (I : Inv X pins σ H s) {d : D} {v : V} {u : Value} (r : Rep X.mg X.wk g H d v) (hd : d.isData = true) (ru : RelV v u) : ∃ as, Reads s.heap u d.pd as := Dp.reads I _ v u (r.dp hd) ru
theorem each_reads (I : Inv X pins σ H s) : ∀ {ds : List D} {vs : List V} {us : List Value}, RepAll X.mg X.wk g H ds vs → D.allData ds = true → Vals vs us → PySem.W.EachIs (fun u (p : D × V) => ∃ as, Reads s.heap u p.1.pd as) us (ds.zip vs)
  | _, _, _, .nil, _, r => by cases r; exact .nil
  | _, _, _, .cons h t, e, r => by
    simp only [D.allData, Bool.and_eq_true] at e
    cases r with
    | cons r1 r2 => exact .cons (reads_rep I h e.1 r1) (each_reads I t e.2 r2)
def opSorted : ON
  | [.lst ds], K => SrtOk ds ∧ K (.own (.lst (srtD ds)))
  | [.dct ks _], K => SrtOk ks ∧ K (.own (.lst (srtD ks)))
  | _, _ => False
end
end VC

set_option Elab.async false
set_option linter.all false
set_option maxRecDepth 100000
set_option maxHeartbeats 4000000
/-! VZ: dict(pairs), list(d.items()). -/
namespace VC
open PySem PySem.Spec PyProof.Rows L2
/-- keys that a dict may have -/
structure KsOk (ks : List D) : Prop where
  kok : ∀ k ∈ ks, kok k 8 = true
  nd : ks.Nodup
  kd : (∀ k ∈ ks, k.isT = true) ∨ ∀ k ∈ ks, k.isL = true
  len : ks.length ≤ 1000000
theorem KsOk.nodup : ∀ {ks : List D}, (∀ k ∈ ks, VC.kok k 8 = true) → ks.Nodup → (ks.map D.key).Nodup
  | [], _, _ => List.nodup_nil
  | k :: ks, h, n => by
    rw [List.nodup_cons] at n
    rw [List.map_cons, List.nodup_cons]
    refine ⟨fun z => ?_, KsOk.nodup (fun q hq => h q (List.mem_cons_of_mem _ hq)) n.2⟩
    obtain ⟨q, hq, e⟩ := List.mem_map.mp z
    exact n.1 (key_inj _ _ _ _ (h k (List.mem_cons_self ..)) (h q (List.mem_cons_of_mem _ hq)) e.symm ▸ hq)
section
variable {X : Cx} {pins : List (Addr × Obj)} {s : Shared} {σ : L2.St} {H : Hp} {g : Gh}
/-- the pairs in the heap -/
def tsOf (us : List Value) (j : Nat) : Addr := match us[j]? with
  | some (.ref a) => a
  | _ => 0
theorem pair_at (I : Inv X pins σ H s) {k d : D} {v : V} {u : Value} (r : Rep X.mg X.wk g H (.tup [k, d]) v) (ru : RelV v u) :
    ∃ a kv dv uk ud, u = .ref a ∧ Rep X.mg X.wk g H k kv ∧ Rep X.mg X.wk g H d dv ∧ RelV kv uk ∧ RelV dv ud ∧ s.heap.IsTuple a #[uk, ud] := by
  cases r with
  | @tup a vs ds h1 h2 =>
    cases ru
    obtain ⟨its, rv, p, hz⟩ := I.tuple (SqT.at h1)
    cases h2 with
    | cons q1 h2 =>
      cases h2 with
      | cons q2 h2 =>
        cases h2
        cases rv with
        | cons r1 rv =>
          cases rv with
          | cons r2 rv =>
            cases rv
            exact ⟨a, _, _, _, _, rfl, q1, q2, r1, r2, p⟩
theorem pairs_T (I : Inv X pins σ H s) : ∀ {ks ds : List D} {vs : List V} {us : List Value}, ks.length = ds.length → RepAll X.mg X.wk g H (zipD ks ds) vs → Vals vs us → (∀ k ∈ ks, kok k 8 = true) → (∀ k ∈ ks, k.isT = true) →
    ∃ xs : List (NestedKey × Addr × Value), TT3 X.mg X.wk g H ks ds xs ∧ us.length = ks.length ∧ ∀ (j : Nat) x, xs[j]? = some x → ∃ T, us[j]? = some (.ref T) ∧ s.heap.IsTuple T #[.ref x.2.1, x.2.2]
  | [], [], _, _, _, r, ru, _, _ => by cases r; cases ru; exact ⟨[], .nil, rfl, fun j x h => by simp at h⟩
  | k :: ks, d :: ds, _, _, hl, r, ru, h1, h2 => by
    cases r with
    | cons r rs =>
      cases ru with
      | cons ru rus =>
        obtain ⟨xs, t, hl', hx⟩ := pairs_T I (by simpa using hl) rs rus (fun q hq => h1 q (List.mem_cons_of_mem _ hq)) fun q hq => h2 q (List.mem_cons_of_mem _ hq)
        obtain ⟨a, kv, dv, uk, ud, rfl, q1, q2, q3, q4, q5⟩ := pair_at I r ru
        obtain ⟨nk, ek, _⟩ := kok_key k 8 (h1 k (List.mem_cons_self ..))
        obtain ⟨b, rfl, _⟩ := Cont.isT (.inl q1) (h2 k (List.mem_cons_self ..))
        cases q3
        refine ⟨(nk, b, ud) :: xs, .cons (h1 k (List.mem_cons_self ..)) ek q1 q2 q4 t, by simp [hl'], fun j x hj => ?_⟩
        cases j with
        | zero => simp at hj; subst hj; exact ⟨a, by simp, q5⟩
        | succ j => exact hx j x (by simpa using hj)
  | [], _ :: _, _, _, h, _, _, _, _ => by simp at h
  | _ :: _, [], _, _, h, _, _, _, _ => by simp at h
theorem pairs_L (I : Inv X pins σ H s) : ∀ {ks ds : List D} {vs : List V} {us : List Value}, ks.length = ds.length → RepAll X.mg X.wk g H (zipD ks ds) vs → Vals vs us → (∀ k ∈ ks, k.isL = true) →
    ∃ xs : List (Key × Value), LL3 X.mg X.wk g H ks ds xs ∧ us.length = ks.length ∧ ∀ (j : Nat) x, xs[j]? = some x → ∃ T uk, us[j]? = some (.ref T) ∧ keyIs x.1 uk = true ∧ s.heap.IsTuple T #[uk, x.2]
  | [], [], _, _, _, r, ru, _ => by cases r; cases ru; exact ⟨[], .nil, rfl, fun j x h => by simp at h⟩
  | k :: ks, d :: ds, _, _, hl, r, ru, h2 => by
    cases r with
    | cons r rs =>
      cases ru with
      | cons ru rus =>
        obtain ⟨xs, t, hl', hx⟩ := pairs_L I (by simpa using hl) rs rus fun q hq => h2 q (List.mem_cons_of_mem _ hq)
        obtain ⟨a, kv, dv, uk, ud, rfl, q1, q2, q3, q4, q5⟩ := pair_at I r ru
        obtain ⟨kk, rfl⟩ := kD_of (h2 k (List.mem_cons_self ..))
        have ki : keyIs kk uk = true := keyIs_of (P := X.prog) (w := X.w) q1 q3
        refine ⟨(kk, ud) :: xs, .cons (x := (kk, ud)) q2 q4 t, by simp [hl'], fun j x hj => ?_⟩
        cases j with
        | zero => simp at hj; subst hj; exact ⟨a, uk, by simp, ki, q5⟩
        | succ j => exact hx j x (by simpa using hj)
  | [], _ :: _, _, _, h, _, _, _ => by simp at h
  | _ :: _, [], _, _, h, _, _, _ => by simp at h
def opDict : ON
  | [.lst ps], K => ∃ ks ds, ps = zipD ks ds ∧ ks.length = ds.length ∧ KsOk ks ∧ K (.own (.dct ks ds))
  | _, _ => False
end
end VC

set_option Elab.async false
set_option linter.all false
set_option maxRecDepth 100000
set_option maxHeartbeats 4000000
/-! XA: list(d.items()). -/
namespace VC
open PySem PySem.Spec PyProof.Rows L2
section
variable {P : Program} {w : World} {A : Around} {E : Value → Shared → Prop} {s : Shared} {r d : Addr} {es : Array DictEntry} {ep : Nat}
end
section
variable {X : Cx} {B : Hp} {g0 : Gh} {o : Expr} {p apos cpos pos : Pos}
/-- the tuples made -/
theorem take_pairs {pins : List (Addr × Obj)} {σ : L2.St} {H0 : Hp} {s : Shared} {h' : Heap} {tk : Nat} (I0 : Inv X pins σ H0 s) : ∀ (as : List Addr) (L : List (List V)) (H1 : Hp), Inv X pins σ H1 { s with heap := h', toks := tk } → as.Nodup → as.length = L.length →
    (∀ a ∈ as, s.heap.objs.size ≤ a ∧ H1 a = none) → (∀ (j : Nat) a vs, as[j]? = some a → L[j]? = some vs → ∀ H2, ObjOk X.prog X.w H2 h' a (.tup vs)) →
    ∃ H2, Inv X pins σ H2 { s with heap := h', toks := tk } ∧ New H1 H2 ∧ ∀ (j : Nat) a vs, as[j]? = some a → L[j]? = some vs → H2 a = some (.tup vs)
  | [], [], H1, I1, _, _, _, _ => ⟨H1, I1, New.refl _, fun j a vs h => by simp at h⟩
  | a :: as, vs :: L, H1, I1, hn, hl, h, hok => by
    obtain ⟨hb, hnone⟩ := h a (List.mem_cons_self ..)
    have I2 : Inv X pins σ (upd H1 a (.tup vs)) { s with heap := h', toks := tk } := I1.take (h' := h') (t' := tk) (fun b ob _ e => e) (I0.fpOk hb hnone) (hok 0 a vs rfl rfl _)
    rw [List.nodup_cons] at hn
    obtain ⟨H2, I3, n, q⟩ := take_pairs I0 as L _ I2 hn.2 (by simpa using hl) (fun c hc => by
      obtain ⟨c1, c2⟩ := h c (List.mem_cons_of_mem _ hc)
      exact ⟨c1, by rw [upd_ne (fun z => hn.1 (by rw [← z]; exact hc))]; exact c2⟩) fun j b us h1 h2 => hok (j + 1) b us (by simpa using h1) (by simpa using h2)
    refine ⟨H2, I3, (New.upd hnone).trans n, fun j b us h1 h2 => ?_⟩
    cases j with
    | zero => simp at h1 h2; subst h1 h2; exact n _ _ upd_same
    | succ j => exact q j b us (by simpa using h1) (by simpa using h2)
  | [], _ :: _, _, _, _, h, _, _ => by simp at h
  | _ :: _, [], _, _, _, h, _, _ => by simp at h
def rItems (es : List DictEntry) (L : List (List V)) : Prop := es.length = L.length ∧ ∀ (j : Nat) e vs, es[j]? = some e → L[j]? = some vs → Vals vs [e.key, e.val]
def tItems (to : TE) : TE := fun σ H Q => to σ H fun x H1 => ∃ d es ep L, x = .ref d ∧ H1 d = some (.ext (DictAt d (es, ep))) ∧ (d == sysModules) = false ∧ es.length ≤ 1000000 ∧ rItems es L ∧
  ∀ (q : Addr) (as : List Addr) (H2 : Hp), H1 q = none → New (upd H1 q (.lst (as.map V.ref))) H2 → as.length = L.length → (∀ (j : Nat) a vs, as[j]? = some a → L[j]? = some vs → H2 a = some (.tup vs)) → Q (.ref q) H2
def wItems (Wo : WO) : WE := fun env S Q => Wo env S fun d env1 S1 => match dr S1 d with
  | .dct ks vs => ks.length ≤ 1000000 ∧ Q (.own (.lst (zipD ks vs))) env1 S1
  | _ => False
theorem RepEs.items {mg : Str → Option Value} {w : WK} {g : Gh} {H : Hp} : ∀ {ks ds : List D} {es : List DictEntry}, RepEs mg w g H ks ds es → ∃ L : List (List V), rItems es L ∧ ∀ (g' : Gh) (H' : Hp) (as : List Addr), Fz g H g' H' → as.length = L.length → (∀ (j : Nat) a vs, as[j]? = some a → L[j]? = some vs → H' a = some (.tup vs)) → RepAll mg w g' H' (zipD ks ds) (as.map V.ref)
  | _, _, _, .nil => ⟨[], ⟨rfl, fun j e vs h => by simp at h⟩, fun g' H' as _ hl _ => by
      cases as with
      | nil => exact .nil
      | cons _ _ => simp at hl⟩
  | _, _, _, .cons (kv := kv) (dv := dv) h1 h2 h3 h4 h5 h6 h7 h8 => by
    obtain ⟨L, hr, k⟩ := RepEs.items h8
    refine ⟨[kv, dv] :: L, ⟨by simp [hr.1], fun j e vs e1 e2 => ?_⟩, fun g' H' as z hl ha => ?_⟩
    · cases j with
      | zero => simp at e1 e2; subst e1 e2; exact .cons h2 (.cons h4 .nil)
      | succ j => exact hr.2 j e vs (by simpa using e1) (by simpa using e2)
    · cases as with
      | nil => simp at hl
      | cons a as => exact .cons (.tup (ha 0 a _ rfl rfl) (.cons (h1.mono z) (.cons (h3.mono z) .nil))) (k g' H' as z (by simpa using hl) fun j b vs e1 e2 => ha (j + 1) b vs (by simpa using e1) (by simpa using e2))
end
end VC

set_option Elab.async false
set_option linter.all false
set_option maxRecDepth 100000
set_option maxHeartbeats 4000000
/-! XB: several names stored at once, some of them cells; name += int. -/
namespace VC
open PySem PySem.Spec PyProof.Rows L2
section
variable {X : Cx} {B : Hp} {g0 : Gh} {a b c e : Expr} {pos : Pos}
theorem RT.new {mg : Str → Option Value} {w : WK} {g : Gh} {H H' : Hp} {σ : L2.St} {env : VEnv} {t : T} {v : V} (r : RT mg w B g H σ env t v) (n : New H H') (tr : ∀ a, g.F a → ∃ o, H a = some o) : RT mg w B g H' σ env t v := by
  cases t with
  | val d => exact Rep.mono (Fz.new n tr) r
  | own m =>
    obtain ⟨a, h1, h2, h3⟩ := r
    obtain ⟨o, ho, _⟩ := h2.there
    exact ⟨a, h1, h2.mono (Fz.new n tr) ((n a o ho).trans ho.symm), h3⟩
def gN2 (X : Cx) (i j : Nat) : TG := gTup X.K 2 (gCons (gName i) (gCons (gName j) gNil))
def gN3 (X : Cx) (i j l : Nat) : TG := gTup X.K 3 (gCons (gName i) (gCons (gName j) (gCons (gName l) gNil)))
theorem ps_tupC2 {i j : Nat} {x y : Str} {ta : TA} {px py pt pt2 : Pos} {kt k2 : Nat} (hc : X.calm = true) (hN : X.N.Nodup) (hi : X.N[i]? = some x) (hj : X.N[j]? = some y) (lx : Loc X.env.scope x) (ly : Loc X.env.scope y) (fx : X.fn x = true ∨ X.env.scope.names.lookup x = some .local) (fy : X.fn y = true ∨ X.env.scope.names.lookup y = some .local)
    (ha : PA X [a, b] ta) (hw : swappedStores [.Tuple [.Name x px, .Name y py] kt pt] (.Tuple [a, b] k2 pt2) X.env = pure none)
    (hs : swapsWithSole [.Tuple [.Name x px, .Name y py] kt pt] (.Tuple [a, b] k2 pt2) pos.line X.env = pure false := by rfl) :
    PS X (.Assign [.Tuple [.Name x px, .Name y py] kt pt] (.Tuple [a, b] k2 pt2) pos) (tAsg (tTup ta) (gN2 X i j)) :=
  ps_asg (pos := pos) (pe_tup (x1 := k2) (pos := pt2) ha) (pg_tup (k := kt) (pos := pt) hc (pgs_cons (pg_name (pos := px) hN hi lx fx) (pgs_cons (pg_name (pos := py) hN hj ly fy) pgs_nil))) hs hw
theorem vs_pr2C {i j : Nat} {x y : Str} {px py pt pt2 : Pos} {kt k2 : Nat} {W : WL} (h : VLs X B g0 [a, b] W) (hp : ∀ ta, PA X [a, b] ta → PS X (.Assign [.Tuple [.Name x px, .Name y py] kt pt] (.Tuple [a, b] k2 pt2) pos) (tAsg (tTup ta) (gN2 X i j))) :
    VS X B g0 (.Assign [.Tuple [.Name x px, .Name y py] kt pt] (.Tuple [a, b] k2 pt2) pos) (wPr2 i j W) := by
  refine VS.of (fun _ _ _ _ k q => h.mono _ _ _ _ (fun ds _ _ q => ?_) q) (hp _ h.pa) fun σ H env S g De R q => ?_
  · split at q <;> first | exact k.nx _ _ q | exact q.elim
  · refine ⟨env, S, g, _, R, q, fun vs H1 ⟨g1, ds, env1, S1, st1, R1, ra, q1⟩ => ?_⟩
    dsimp only at q1
    split at q1
    · cases ra with
      | @cons _ v1 _ _ r1 n1 ra =>
        cases ra with
        | @cons _ v2 _ _ r2 n2 ra =>
          cases ra
          refine ⟨show 2 ≤ sizeLine by decide, fun p hp => ⟨p, _, rfl, SqT.at upd_same, rfl, _, _, rfl, _, _, rfl, rfl, ?_⟩⟩
          have hn := New.upd (o := HO.tup [v1, v2]) hp
          have r1 := r1.new hn R1.sto.tr
          have r2 := r2.new hn R1.sto.tr
          have R2 := R1.new hn
          exact ⟨g1, _, S1, (st1.trans (hn.stp R1.sto.tr)).toFz, (R2.putOwn i r1).putOwn j (r2.put R2.len (fun m a e1 e2 m' e3 e4 => n1 m a e1 e2 0 m' (by simp [e3]) (by simp [e4])) r1.isref), q1⟩
    · exact q1.elim
/-- name += e, name -= e: ints -/
def wAug (i : Nat) (f : Int → Int → Int) (We : WE) : WS := fun D env S => match slot env i with
  | some (.val (.int x)) => We env S fun t env1 S1 => match t with
    | .val (.int y) => D.nx (env1.set i (some (.val (.int (f x y))))) S1
    | _ => False
  | _ => False
end
end VC

set_option Elab.async false
set_option linter.all false
set_option maxRecDepth 100000
set_option maxHeartbeats 4000000
/-! XC: a call that keeps nothing of its arguments: own objects stay own. -/
namespace VC
open PySem PySem.Spec PyProof.Rows L2
def M.flat : M → Prop
  | .lst ds => ∀ d ∈ ds, ∃ i, d = D.int i
  | .dct _ _ => False
  | .ins _ _ _ => False
  | .tbl _ => False
def T.plain : T → Prop
  | .val (.bl _) => True
  | .val (.int _) => True
  | .val .non => True
  | _ => False
section
variable {mg : Str → Option Value} {w : WK} {g : Gh} {H : Hp}
/-- all that may be frozen is -/
def bigF (mg : Str → Option Value) (w : WK) (g : Gh) (H : Hp) : Gh := ⟨fun a => g.F a ∨ ((∃ m, RepM mg w g H m a) ∧ a ∉ g.ρ), g.ρ⟩
theorem fz_big : Fz g H (bigF mg w g H) H := ⟨fun _ _ h => h, fun _ _ => rfl, fun _ h => .inl h, ⟨[], by simp [bigF]⟩⟩
theorem Top.big {d : D} {v : V} (h : Top mg w g H d v) : Rep mg w (bigF mg w g H) H d v := by
  rcases h with h | ⟨a, m, rfl, rfl, h, hn⟩
  · exact h.mono fz_big
  · have hF : (bigF mg w g H).F a := .inr ⟨⟨m, h⟩, hn⟩
    cases m with
    | lst ds => obtain ⟨vs, h1, h2⟩ := h; exact .lst hF (.inl h1) (RepAll.mono fz_big h2)
    | dct ks ds => obtain ⟨es, ep, h1, h2, h3, h4⟩ := h; exact .dct hF h1 h2 (RepEs.mono fz_big h3) h4
    | ins _ _ _ => exact .opq
    | tbl _ => exact .opq
theorem TopAll.big : ∀ {ds : List D} {vs : List V}, TopAll mg w g H ds vs → RepAll mg w (bigF mg w g H) H ds vs
  | _, _, .nil => .nil
  | _, _, .cons h t => .cons h.big t.big
theorem ints_rep {g' : Gh} : ∀ {ds : List D} {vs : List V}, (∀ d ∈ ds, ∃ i, d = D.int i) → RepAll mg w g H ds vs → RepAll mg w g' H ds vs
  | _, _, _, .nil => .nil
  | _, _, h, .cons r t => by
    obtain ⟨i, rfl⟩ := h _ (List.mem_cons_self ..)
    cases r
    exact .cons (.int i) (ints_rep (fun d hd => h d (List.mem_cons_of_mem _ hd)) t)
theorem TopAll.length : ∀ {ds : List D} {vs : List V}, TopAll mg w g H ds vs → ds.length = vs.length
  | _, _, .nil => rfl
  | _, _, .cons _ t => by simp [t.length]
end
section
variable {X : Cx} {B : Hp} {g0 : Gh} {e : Expr} {es : List Expr} {pos : Pos}
/-- behind the call -/
theorem Rp.back {mg : Str → Option Value} {w : WK} {g1 g2 : Gh} {H1 H2 : Hp} {σ : L2.St} {env : VEnv} {S : Sto} (R : Rp mg w B g0 g1 H1 σ env S) (st : Stp (bigF mg w g1 H1) H1 g2 H2) (so : StoOk mg w g2 H2 S) (fl : ∀ m ∈ S, m.flat) : Stp g1 H1 g1 H2 ∧ Rp mg w B g0 g1 H2 σ env S := by
  have er : g2.ρ = g1.ρ := by
    obtain ⟨t, e⟩ := st.ρ
    have e : g2.ρ = g1.ρ ++ t := e
    have := so.len
    rw [e, List.length_append, R.sto.len] at this
    rw [e, List.length_eq_zero_iff.mp (show t.length = 0 by omega), List.append_nil]
  have z : Fz g1 H1 g1 H2 := ⟨st.tup, fun a h => st.frz a (.inl h), fun _ h => h, ⟨[], by simp⟩⟩
  have s1 : Stp g1 H1 g1 H2 := ⟨z, st.oth, fun _ h => .inl h⟩
  refine ⟨s1, ⟨⟨R.sto.len, R.sto.nd, fun k a m h1 h2 => ?_, R.sto.nF, fun a h => ?_⟩, R.len, fun i d q => ?_, fun i m q => ?_, R.inj, R.base.trans s1, R.fN, R.noTup⟩⟩
  · have r := so.at_ k a m (by rw [er]; exact h1) h2
    have f := fl m (List.mem_of_getElem? h2)
    cases m with
    | dct _ _ => exact f.elim
    | ins _ _ _ => exact f.elim
    | tbl _ => exact f.elim
    | lst ds => obtain ⟨vs, r1, r2⟩ := r; exact ⟨vs, r1, ints_rep f r2⟩
  · obtain ⟨o, ho⟩ := R.sto.tr a h
    exact ⟨o, (z.frz a h).trans ho⟩
  · obtain ⟨v, h1, h2⟩ := R.val i d q
    exact ⟨v, h1, h2.mono z⟩
  · obtain ⟨a, h1, h2, h3, h4, h5⟩ := R.own i m q
    obtain ⟨o, ho, _⟩ := h2.there
    exact ⟨a, h1, h2.mono z ((st.oth a o ho h5).trans ho.symm), h3, h4, h5⟩
def wCallU (n : Nat) (sp : FSpec) (W : WA) : WE := fun env S Q => W env S fun ds env1 S1 => ds.length = n ∧ sp ds S1 (fun t S2 => (S2 = S1 ∧ (∀ m ∈ S1, m.flat) ∧ t.plain) ∧ Q t env1 S1) (fun _ _ => False)
end
end VC

set_option Elab.async false
set_option linter.all false
set_option maxRecDepth 100000
set_option maxHeartbeats 4000000
/-! XD: enumerate(zip(xs, ys)). -/
namespace VC
open PySem PySem.Spec PyProof.Rows L2
abbrev ZipAt (h : Heap) (z TI TO : Addr) (f0 f1 : Value) : Prop := h.get? z = some { cls := .type "zip", dict := none, data := .fields #[f0, f1, .bool false, .ref TI, .ref TO], slots := #[] }
def FreeV (f0 : Value) : Prop := f0 = .none ∨ ∃ T : Nat, f0 = rawInt T
section
variable {P : Program} {w : World} {A : Around} {E : Value → Shared → Prop} {s : Shared} {z TI TO i1 i2 : Addr} {fp1 fp2 : List Addr} {n1 n2 i : Nat} {P1 P2 : Nat → Value → Prop} {St1 St2 : Nat → Heap → Prop} {a1 a2 f0 : Value} {f : Bool}
end
end VC

set_option Elab.async false
set_option linter.all false
set_option maxRecDepth 100000
set_option maxHeartbeats 4000000
/-! XE: enumerate(zip(xs, ys)) as what a loop walks. -/
namespace VC
open PySem PySem.Spec PyProof.Rows L2
/-- a walk of n turns, each a new pair of the turn's number and a new pair -/
def Itez (C : Hp → Prop) (n : Nat) (f : Nat → List V) : It :=
  ⟨fun i H => C H ∧ i < n, fun i H v H' => ∃ T, v = .ref (T + 1) ∧ H T = none ∧ H (T + 1) = none ∧ H' = upd (upd H T (.tup (f i))) (T + 1) (.tup [.int (i : Nat), .ref T]), fun i H => C H ∧ i = n⟩
end VC

set_option Elab.async false
set_option linter.all false
set_option maxRecDepth 100000
set_option maxHeartbeats 4000000
/-! XF: enumerate(zip(xs, ys)) in a for. -/
namespace VC
open PySem PySem.Spec PyProof.Rows L2
section
variable {X : Cx} {B : Hp} {g0 : Gh} {e e2 : Expr} {p0 p pos pos0 tpos : Pos} {elts : List Expr} {kk : Nat}
def iEzX (ta : TA) : TI := fun σ H R => ta σ H fun vs H1 => ∃ a b xs ys k1 k2, vs = [.ref a, .ref b] ∧ SqK k1 H1 a xs ∧ SqK k2 H1 b ys ∧ R (Itez (fun H => SqK k1 H a xs ∧ SqK k2 H b ys) (min xs.length ys.length) (zpF xs ys)) H1
def iEz (W : WA) : WA := fun env S Q => W env S fun ds env' S' => match ds with
  | [d, e] => sqD d fun ds => sqD e fun es => Q (enumD 0 (zipD ds es)) env' S'
  | _ => False
end
end VC

set_option Elab.async false
set_option linter.all false
set_option maxRecDepth 100000
set_option maxHeartbeats 4000000
/-! XG: comprehensions of two clauses. -/
namespace VC
open PySem PySem.Spec PyProof.Rows L2
def lc2W (vs vs1 : List Nat) (G : WG) (Wt : WT) (Wi1 : WA) (G1 : WG) (Wt1 : WT) (We : WE) : List D → List D → VEnv → Sto → (List D → VEnv → Sto → Prop) → Prop
  | [], acc, env, S, Q => Q acc env S
  | d :: ds, acc, env, S, Q => G d env S fun env1 S1 => Wt env1 S1 fun b env2 S2 =>
    Ite b (Wi1 env2 S2 fun items1 env3 S3 => acc.length + items1.length ≤ 1000000 ∧ lcW vs1 G1 Wt1 We items1 acc (wpE env3 vs1) S3 fun acc' env4 S4 => lc2W vs vs1 G Wt Wi1 G1 Wt1 We ds acc' (wpE env4 vs) S4 Q)
      (lc2W vs vs1 G Wt Wi1 G1 Wt1 We ds acc (wpE env2 vs) S2 Q)
abbrev MoG (G : WG) : Prop := ∀ d env S (Q Q' : WEnd), (∀ e s, Q e s → Q' e s) → G d env S Q → G d env S Q'
theorem lc2W_mono {vs vs1 : List Nat} {G : WG} {Wt : WT} {Wi1 : WA} {G1 : WG} {Wt1 : WT} {We : WE} (mg : MoG G) (mt : Mo Wt) (mi : Mo Wi1) (mg1 : MoG G1) (mt1 : Mo Wt1) (me : Mo We) {Q Q' : List D → VEnv → Sto → Prop} (i : ∀ t e s, Q t e s → Q' t e s) :
    ∀ items acc env S, lc2W vs vs1 G Wt Wi1 G1 Wt1 We items acc env S Q → lc2W vs vs1 G Wt Wi1 G1 Wt1 We items acc env S Q'
  | [], _, _, _, q => i _ _ _ q
  | d :: ds, acc, _, _, q => mg _ _ _ _ _ (fun _ _ q => mt _ _ _ _ (fun b _ _ q => q.mono (mi _ _ _ _ fun _ _ _ q => ⟨q.1, lcW_mono mg1 mt1 me (fun _ _ _ q => lc2W_mono mg mt mi mg1 mt1 me i ds _ _ _ q) _ _ _ _ q.2⟩) (lc2W_mono mg mt mi mg1 mt1 me i ds _ _ _)) q) q
def wLc2 (vs vs1 : List Nat) (Wi : WA) (G : WG) (Wt : WT) (Wi1 : WA) (G1 : WG) (Wt1 : WT) (We : WE) : WE := fun env S Q => Wi env S fun items env1 S1 =>
  noOwn env1 vs = true ∧ lc2W vs vs1 G Wt Wi1 G1 Wt1 We items [] (wpE env1 vs) S1 fun acc env2 S2 => Q (.own (.lst acc)) (rst env1 env2 vs) S2
section
variable {X : Cx} {B : Hp} {g0 : Gh} {elt tg iter tg1 iter1 c : Expr} {ifs ifs1 : List Expr} {scope : Scope} {own : List (Str × Nat)} {pos : Pos}
structure Blk1 (X : Cx) (scope : Scope) (is : List Nat) (tg iter : Expr) (ifs : List Expr) (G : WG) (Wt : WT) (Wi : WA) : Prop where
  i : ∀ (s : Shared) (H : Hp) (C : Addr) (cl : List (Str × Addr)) (fp : List Addr) (B' : Hp) (g' : Gh), VI (X.blk s H scope (compEnvC scope cl C X.env) fp) B' g' tg iter Wi
def tIu (X : Cx) (W : WA) : TI := fun σ H R => ∃ B' g', tI X B' g' W σ H R
end
end VC

set_option Elab.async false
set_option linter.all false
set_option maxRecDepth 100000
set_option maxHeartbeats 4000000
/-! XH: sorted(set(list of ints)). -/
namespace VC
open PySem PySem.Spec PyProof.Rows L2
section
variable {P : Program} {w : World} {A : Around} {E : Value → Shared → Prop} {s : Shared}
abbrev stO (w : World) : Obj := { cls := .type "set", dict := none, data := .set #[] 0 (.fresh 0 0 (!w.params.followText "set-order")) }
end
end VC

set_option Elab.async false
set_option linter.all false
set_option maxRecDepth 100000
set_option maxHeartbeats 4000000
/-! XI: sorted(set(e)), e a list of ints. -/
namespace VC
open PySem PySem.Spec PyProof.Rows L2
/-! the sorted list does not ask in which order it got the items -/
/-! ### each once -/
open Classical in
noncomputable def ddp : List D → List D
  | [] => []
  | d :: ds => if d ∈ ds then ddp ds else d :: ddp ds
theorem mem_ddp {x : D} : ∀ {ds : List D}, x ∈ ddp ds ↔ x ∈ ds
  | [] => by simp [ddp]
  | d :: ds => by
    unfold ddp
    split
    · rename_i h
      rw [mem_ddp (ds := ds), List.mem_cons]
      exact ⟨.inr, fun k => k.elim (fun e => e ▸ h) id⟩
    · rw [List.mem_cons, List.mem_cons, mem_ddp (ds := ds)]
theorem nodup_ddp : ∀ ds : List D, (ddp ds).Nodup
  | [] => by simp [ddp]
  | d :: ds => by
    unfold ddp
    split
    · exact nodup_ddp ds
    · rename_i h
      exact List.nodup_cons.mpr ⟨fun k => h (mem_ddp.mp k), nodup_ddp ds⟩
theorem ddp_len : ∀ ds : List D, (ddp ds).length ≤ ds.length
  | [] => by simp [ddp]
  | d :: ds => by
    unfold ddp
    split
    · exact Nat.le_succ_of_le (ddp_len ds)
    · exact Nat.succ_le_succ (ddp_len ds)
/-! ### ints sorted, each once -/
end VC

set_option Elab.async false
set_option linter.all false
set_option maxRecDepth 100000
set_option maxHeartbeats 4000000
/-! YA: the tables of sets: masks whose round 5 i + 1 meets every slot. -/
namespace VC
open PySem PySem.Spec PyProof.Rows L2
/-- a round goes through all slots -/
structure MK (m : Nat) : Prop where
  odd : m % 2 = 1
  full : ∀ i j, i ≤ m → j ≤ m → ∃ k, k ≤ m ∧ lcgI m i k = j
def roundM (m : Nat) : Nat → Nat → Nat → Nat × Nat
  | 0, x, acc => (x, acc)
  | f + 1, x, acc => roundM m f ((x * 5 + 1) % (m + 1)) (acc ||| (1 <<< x))
theorem roundM_fst (m : Nat) : ∀ f b acc, (roundM m f (lcgN m b) acc).1 = lcgN m (b + f)
  | 0, b, acc => rfl
  | f + 1, b, acc => (roundM_fst m f (b + 1) _).trans (by rw [Nat.add_right_comm, Nat.add_assoc])
theorem roundM_bit (m j : Nat) : ∀ f b acc, (roundM m f (lcgN m b) acc).2.testBit j = true → acc.testBit j = true ∨ ∃ k, k < f ∧ lcgN m (b + k) = j
  | 0, b, acc, h => .inl h
  | f + 1, b, acc, h => by
    rcases roundM_bit m j f (b + 1) (acc ||| (1 <<< lcgN m b)) h with q | ⟨k, h1, h2⟩
    · rw [Nat.testBit_or, Bool.or_eq_true] at q
      rcases q with q | q
      · exact .inl q
      · rw [Nat.one_shiftLeft, Nat.testBit_two_pow, decide_eq_true_iff] at q
        exact .inr ⟨0, Nat.succ_pos _, q⟩
    · exact .inr ⟨k + 1, Nat.succ_lt_succ h1, by rw [← h2]; congr 1; omega⟩
theorem MK.big {m : Nat} (ho : m % 2 = 1) (h : roundM m (m + 1) 0 0 = (0, 2 ^ (m + 1) - 1)) : MK m := by
  have per : lcgN m (m + 1) = 0 := by
    have := roundM_fst m (m + 1) 0 0
    rw [show lcgN m 0 = 0 from rfl, h, Nat.zero_add] at this
    exact this.symm
  have hit : ∀ j, j ≤ m → ∃ b, b ≤ m ∧ lcgN m b = j := fun j hj => by
    have := roundM_bit m j (m + 1) 0 0
    rw [show lcgN m 0 = 0 from rfl, h, Nat.testBit_two_pow_sub_one] at this
    rcases this (by simp; omega) with q | ⟨k, h1, h2⟩
    · simp at q
    · exact ⟨k, by omega, by rw [← h2, Nat.zero_add]⟩
  have cyc : ∀ k, lcgN m (m + 1 + k) = lcgN m k := fun k => by
    induction k with
    | zero => exact per
    | succ k ih => exact congrArg (fun x => (x * 5 + 1) % (m + 1)) ih
  refine ⟨ho, fun i j hi hj => ?_⟩
  obtain ⟨a, ha, rfl⟩ := hit i hi
  obtain ⟨b, hb, rfl⟩ := hit j hj
  by_cases c : a ≤ b
  · exact ⟨b - a, by omega, by rw [lcgN_add]; congr 1; omega⟩
  · refine ⟨b + (m + 1) - a, by omega, ?_⟩
    rw [lcgN_add, show a + (b + (m + 1) - a) = m + 1 + b by omega, cyc]
section
variable {m : Nat}
theorem MK.run (M : MK m) (h : Int) {j : Nat} (hj : j ≤ m) : ∃ n, n ≤ m + 12 ∧ runI m (SetTable.bits h) n = j := by
  obtain ⟨k, hk, e⟩ := M.full (runI m (SetTable.bits h) 12) j (runI_le _ _ _) hj
  exact ⟨12 + k, by omega, (runI_tail (bits_lt h) k).trans e⟩
theorem MK.meets (M : MK m) (h : Int) {j : Nat} (hj : j ≤ m) : ∃ k, k < 10 * SetTable.turns m ∧ way m h k = j := by
  obtain ⟨n, hn, e⟩ := M.run h hj
  obtain ⟨k, hk, e2⟩ := run_nth m (SetTable.bits h) n
  exact ⟨k, by show k < 10 * (m + 15); omega, (congrArg SetTable.Probe.j e2).trans e⟩
theorem wayLe (h : Int) (k : Nat) : way m h k ≤ m := by
  have hi : SetTable.bits h % (m + 1) ≤ m := Nat.le_of_lt_succ (Nat.mod_lt _ (Nat.succ_pos _))
  have r := runEnd_bd hi
  have := nth_in (m := m) k (runAt m (SetTable.bits h % (m + 1)) (SetTable.bits h)) (show SetTable.bits h % (m + 1) + (SetTable.runEnd m (SetTable.bits h % (m + 1)) - SetTable.bits h % (m + 1)) ≤ m by omega)
  unfold way
  omega
end
/-- a table in which each is found from its hash -/
structure TabG (t : SetTable) (hs : List Int) : Prop where
  ris : Ris t.place.toList
  dm : t.dummies = #[]
  sz : t.place.size = hs.length
  mq : MK t.mask
  bd : ∀ x ∈ t.place.toList, x ≤ t.mask
  rch : ∀ (i : Nat) (h : Int) (j : Nat), hs[i]? = some h → t.place.toList[i]? = some j → ∃ k, way t.mask h k = j ∧ ∀ q, q < k → way t.mask h q ∈ t.place.toList
section
variable {t : SetTable} {hs : List Int}
/-- one more -/
theorem TabG.more (T : TabG t hs) {h : Int} {K : Nat} (hK : way t.mask h K ∉ t.place.toList) (hb : ∀ k, k < K → way t.mask h k ∈ t.place.toList) {p : Nat} (hp : p = SetTable.below t.place (way t.mask h K)) :
    p ≤ hs.length ∧ TabG (t.put (way t.mask h K)).1 (hs.take p ++ h :: hs.drop p) ∧ (t.put (way t.mask h K)).1.fill = hs.length + 1 := by
  have c1 : p ≤ t.place.size := by rw [hp]; exact (below_cut T.ris _).1
  have cut := below_cut T.ris (way t.mask h K)
  have pl : p ≤ t.place.toList.length := by rwa [Array.length_toList]
  have ph : p ≤ hs.length := by rw [← T.sz]; exact c1
  have lz : t.place.toList.length = hs.length := T.sz
  have wl := wayLe (m := t.mask) h K
  have pp : (t.put (way t.mask h K)).1.place.toList = t.place.toList.take p ++ way t.mask h K :: t.place.toList.drop p := by rw [hp]; exact put_place t _
  have up : ∀ {x : Nat}, x ∈ t.place.toList → x ∈ (t.put (way t.mask h K)).1.place.toList := fun hx => by rw [pp]; exact mem_ins.mpr (.inr hx)
  have ps : (t.put (way t.mask h K)).1.place.size = hs.length + 1 := by rw [← Array.length_toList, pp, len_ins _ pl, lz]
  have dm := put_dm T.dm (way t.mask h K)
  refine ⟨ph, ⟨ris_insert T.ris fun e => hK (List.mem_of_getElem? (by rw [Array.getElem?_toList]; exact e)), dm, by rw [ps, len_ins _ ph], T.mq, fun x hx => ?_, fun i g j h1 h2 => ?_⟩, ?_⟩
  · rw [pp] at hx
    rcases mem_ins.mp hx with rfl | z
    · exact wl
    · exact T.bd x z
  · rw [tins_get _ ph] at h1
    rw [pp, tins_get _ pl] at h2
    by_cases c : i < p
    · rw [if_pos c] at h1 h2
      obtain ⟨k, e, z⟩ := T.rch i g j h1 h2
      exact ⟨k, e, fun q hq => up (z q hq)⟩
    · rw [if_neg c] at h1 h2
      by_cases d : i = p
      · rw [if_pos d] at h1 h2
        cases h1
        cases h2
        exact ⟨K, rfl, fun q hq => up (hb q hq)⟩
      · rw [if_neg d] at h1 h2
        obtain ⟨k, e, z⟩ := T.rch _ g j h1 h2
        exact ⟨k, e, fun q hq => up (z q hq)⟩
  · show (t.put (way t.mask h K)).1.place.size + (t.put (way t.mask h K)).1.dummies.size = _
    rw [ps, dm]; rfl
end
/-! ### laid anew -/
section
variable {m : Nat}
theorem MK.free (M : MK m) (owner : Array (Option Nat)) (h : Int) {j : Nat} (hj : j ≤ m) (hf : oAt owner j = none) :
    ∃ K, SetTable.layClean.free m owner (SetTable.turns m) (SetTable.bits h % (m + 1)) (SetTable.bits h) = some (way m h K) ∧ oAt owner (way m h K) = none ∧ ∀ k, k < K → oAt owner (way m h k) ≠ none := by
  obtain ⟨n, hn, e⟩ := M.run h hj
  have hw : way m h (off m (SetTable.bits h % (m + 1)) (SetTable.bits h) n) = j := by
    unfold way
    rw [nth_off, itL_run]
    exact e
  obtain ⟨K, k1, k2, k3⟩ := st_least (p := fun k => oAt owner (way m h k) = none) (off m (SetTable.bits h % (m + 1)) (SetTable.bits h) n) (by rw [hw]; exact hf)
  refine ⟨K, free_spec m owner (SetTable.turns m) n _ _ K (show n < m + 15 by omega) k1 (fun k hk => ?_) (by rw [show oAt owner _ = none from k2]; rfl), k2, k3⟩
  obtain ⟨x, hx⟩ := Option.ne_none_iff_exists'.mp (k3 k hk)
  show (oAt owner (way m h k)).isNone = false
  rw [hx]; rfl
theorem ownStep (M : MK m) {done : List Int} {owner : Array (Option Nat)} (W : Own m done owner) (hl : done.length ≤ m) (h : Int) :
    ∃ j, SetTable.layClean.free m owner (SetTable.turns m) (SetTable.bits h % (m + 1)) (SetTable.bits h) = some j ∧ Own m (done ++ [h]) (owner.setIfInBounds j (some done.length)) := by
  obtain ⟨ps, hps, hin⟩ := W.ps
  obtain ⟨j0, h0, hn0⟩ := st_missing ps (m + 1) (by omega)
  have f0 : oAt owner j0 = none := Classical.byContradiction fun c => hn0 (hin j0 (Nat.le_of_lt_succ h0) c)
  obtain ⟨K, e1, e2, e3⟩ := M.free owner h (Nat.le_of_lt_succ h0) f0
  have wl := wayLe (m := m) h K
  have self : oAt (owner.setIfInBounds (way m h K) (some done.length)) (way m h K) = some done.length := oAt_set_self _ (by rw [W.sz]; omega)
  have mono : ∀ {i : Nat}, oAt owner i ≠ none → oAt (owner.setIfInBounds (way m h K) (some done.length)) i ≠ none := fun {i} hi => by
    by_cases c : i = way m h K
    · rw [c, self]; exact fun q => nomatch q
    · rw [oAt_set_ne _ c]; exact hi
  refine ⟨_, e1, ⟨by rw [Array.size_setIfInBounds, W.sz], fun j k hj e => ?_, fun k hk => ?_, ⟨way m h K :: ps, by simp [hps], fun j hj e => ?_⟩⟩⟩
  · by_cases c : j = way m h K
    · rw [c, self] at e
      cases e
      exact ⟨h, K, by rw [List.getElem?_append_right (Nat.le_refl _), Nat.sub_self]; rfl, c.symm, fun q hq => mono (e3 q hq)⟩
    · rw [oAt_set_ne _ c] at e
      obtain ⟨g, G, a1, a2, a3⟩ := W.at_ j k hj e
      exact ⟨g, G, by rw [List.getElem?_append_left (List.getElem?_eq_some_iff.mp a1).1]; exact a1, a2, fun q hq => mono (a3 q hq)⟩
  · rcases Nat.lt_or_ge k done.length with c | c
    · obtain ⟨j, hj, e⟩ := W.all k c
      exact ⟨j, hj, by rw [oAt_set_ne _ fun z => by rw [z, e2] at e; cases e]; exact e⟩
    · have : k = done.length := by simp at hk; omega
      exact ⟨_, wl, by rw [this]; exact self⟩
  · by_cases c : j = way m h K
    · rw [c]; exact List.mem_cons_self
    · rw [oAt_set_ne _ c] at e
      exact List.mem_cons_of_mem _ (hin j hj e)
theorem ownAll (M : MK m) : ∀ (rest done : List Int) (owner : Array (Option Nat)), Own m done owner → done.length + rest.length ≤ m →
    ∃ ow, rest.foldl (stepF m) (some (owner, done.length)) = some (ow, done.length + rest.length) ∧ Own m (done ++ rest) ow
  | [], done, owner, W, _ => ⟨owner, rfl, by rw [List.append_nil]; exact W⟩
  | h :: rest, done, owner, W, hl => by
    have hl2 : done.length + (rest.length + 1) ≤ m := hl
    obtain ⟨j, e, W'⟩ := ownStep M W (by omega) h
    obtain ⟨ow, f, W2⟩ := ownAll M rest (done ++ [h]) _ W' (by rw [List.length_append, List.length_singleton]; omega)
    rw [List.length_append, List.length_singleton] at f
    refine ⟨ow, ?_, by rw [List.append_assoc] at W2; exact W2⟩
    rw [List.foldl_cons, stepF_some e, f, List.length_cons]
    congr 2; omega
theorem MK.relaid (t : SetTable) {hs : Array Int} {wanted : Nat} (hw : SetTable.sizeAbove wanted - 1 = m) (M : MK m) (hn : hs.size ≤ m) :
    ∃ t' order, t.relaid hs wanted = some (t', order) ∧ order.toList.Perm (List.range hs.size) ∧ TabG t' (order.toList.map fun i => hs.getD i 0) ∧ t'.mask = m ∧ t'.led = t.led ∧ t'.plain = t.plain := by
  obtain ⟨owner, f, W⟩ := ownAll M hs.toList [] _ (Own.init m) (by show 0 + hs.size ≤ m; omega)
  rw [List.nil_append] at W
  have e : SetTable.layClean m hs = some owner := by
    rw [layClean_eq, show (0 : Nat) = ([] : List Int).length from rfl, f]; rfl
  have hr : t.relaid hs wanted = some (tabOf t m owner, ((liveOf m owner).map (·.2)).toArray) := by rw [relaid_eq, hw, e]; rfl
  obtain ⟨r1, r2⟩ := ris_live (fun j => owner.getD j none) (List.range (m + 1)) List.pairwise_lt_range
  have q1 : Ris ((liveOf m owner).map (·.1)) := r1
  have q2 : ∀ x ∈ (liveOf m owner).map (·.1), x ∈ List.range (m + 1) := r2
  have len : (liveOf m owner).length = hs.size := by
    obtain ⟨ps, p1, p2⟩ := W.ps
    have nd : ((liveOf m owner).map (·.1)).Nodup := List.Pairwise.imp (fun h => Nat.ne_of_lt h) q1
    have a := nat_nodup_len ((liveOf m owner).map (·.1)) ps nd fun x hx => by
      obtain ⟨⟨y, k⟩, hq, rfl⟩ := List.mem_map.mp hx
      obtain ⟨b1, b2⟩ := (mem_live W.sz).mp hq
      exact p2 y b1 (by rw [b2]; exact fun q => nomatch q)
    have b := nat_nodup_len (List.range hs.size) ((liveOf m owner).map (·.2)) List.nodup_range fun k hk => by
      obtain ⟨j, b1, b2⟩ := W.all k (List.mem_range.mp hk)
      exact List.mem_map.mpr ⟨(j, k), (mem_live W.sz).mpr ⟨b1, b2⟩, rfl⟩
    rw [List.length_map] at a b
    rw [List.length_range] at b
    have : hs.toList.length = hs.size := rfl
    omega
  refine ⟨_, _, hr, ?_, ⟨q1, rfl, ?_, M, fun x hx => ?_, fun i h j h1 h2 => ?_⟩, rfl, rfl, rfl⟩
  · refine perm_range hs.size _ (by simp [len]) fun k hk => ?_
    obtain ⟨j, b1, b2⟩ := W.all k hk
    exact List.mem_map.mpr ⟨(j, k), (mem_live W.sz).mpr ⟨b1, b2⟩, rfl⟩
  · simp [tabOf]
  · exact Nat.le_of_lt_succ (List.mem_range.mp (q2 x hx))
  · replace h1 : (((liveOf m owner).map (·.2)).map fun i => hs.getD i 0)[i]? = some h := h1
    replace h2 : ((liveOf m owner).map (·.1))[i]? = some j := h2
    rw [List.getElem?_map] at h2
    rw [List.getElem?_map, List.getElem?_map] at h1
    obtain ⟨⟨y, k⟩, hq, rfl⟩ := Option.map_eq_some_iff.mp h2
    rw [hq] at h1
    obtain ⟨b1, b2⟩ := (mem_live W.sz).mp (List.mem_of_getElem? hq)
    obtain ⟨g, K, a1, a2, a3⟩ := W.at_ y k b1 b2
    have : g = h := by
      have e0 : hs.getD k 0 = h := Option.some.inj h1
      rw [← e0, Array.getD_eq_getD_getElem?, ← Array.getElem?_toList, a1]; rfl
    subst this
    refine ⟨K, a2, fun q hq => ?_⟩
    obtain ⟨k2, z⟩ := Option.ne_none_iff_exists'.mp (a3 q hq)
    exact List.mem_map.mpr ⟨(way m g q, k2), (mem_live W.sz).mpr ⟨wayLe g q, z⟩, rfl⟩
end
end VC

set_option Elab.async false
set_option linter.all false
set_option maxRecDepth 100000
set_option maxHeartbeats 4000000
/-! YB: sets of nested tuples of ints: one is looked for, one is added. -/
namespace VC
open PySem PySem.Spec PyProof.Rows L2
mutual
/-- a key without texts -/
def numk : NestedKey → Bool
  | .none => true
  | .num _ => true
  | .text _ => false
  | .tup ks => numks ks
def numks : List NestedKey → Bool
  | [] => true
  | k :: ks => numk k && numks ks
end
section
variable {P : Program} {w : World}
mutual
theorem ofA_key : ∀ (k : NestedKey) (v : Value) (n : Nat) (s : Shared), NestedIs s.heap k v → k.depth ≤ n → ∀ (A : Around) (E : Value → Shared → Prop) (Q : Bool → Shared → Prop), Q false s → wpAny (model P w) A (ofAClassStatement n v) Q E s
  | _, _, n, s, .none, _, A, E, Q, h => by cases n <;> exact wpAny_pure h
  | _, _, n, s, .bool _, _, A, E, Q, h => by cases n <;> exact wpAny_pure h
  | _, _, n, s, .int _ _, _, A, E, Q, h => by cases n <;> exact wpAny_pure h
  | _, _, n, s, .text _ _, _, A, E, Q, h => by cases n <;> exact wpAny_pure h
  | .tup ks, _, n, s, .tup (a := a) (o := o) (vs := vs) ho hc hd hi, hn, A, E, Q, h => by
    cases n with
    | zero => exact absurd hn (Nat.not_succ_le_zero _)
    | succ n =>
      have all := ofA_keys ks vs.toList n s hi (Nat.le_of_succ_le_succ hn)
      have hT : s.TypeIs (.ref a) "tuple" := ⟨o, ho, hc⟩
      unfold ofAClassStatement
      refine wpAny_bind (wpAny_typeOf hT ?_)
      dsimp only
      have e : (("tuple" : String) == "tuple") = true := by decide
      simp only [e, if_true, Bool.not_true, Bool.false_eq_true, if_false]
      try refine wpAny_bind (wpAny_pure ?_)
      try simp only [Bool.not_true, Bool.false_eq_true, if_false]
      show wpAny _ _ (seqItems? (.ref a) >>= _) _ _ s
      refine wpAny_bind (wpAny_seqItems ho hd ?_)
      dsimp only
      refine wpAny_bind ?_
      show wpAny _ _ (forIn vs _ _) _ _ s
      rw [← Array.forIn_toList]
      refine wpAny_forIn_list _ (fun rest r s' => (r.1 = none ∧ s' = s) ∧ ∀ v ∈ rest, v ∈ vs.toList) _ ?_ ?_ _ _ ⟨⟨rfl, rfl⟩, fun _ h => h⟩
      · rintro v rest r s' ⟨⟨hr, rfl⟩, hall⟩
        refine wpAny_bind (all v (hall v List.mem_cons_self) _ _ _ ?_)
        simp only [Bool.false_eq_true, if_false]
        exact wpAny_pure ⟨⟨rfl, rfl⟩, fun u hu => hall u (List.mem_cons_of_mem _ hu)⟩
      · rintro ⟨r1, r2⟩ s' ⟨⟨hr, rfl⟩, _⟩
        simp only at hr
        subst hr
        exact wpAny_pure h
theorem ofA_keys : ∀ (ks : List NestedKey) (vs : List Value) (n : Nat) (s : Shared), NestedAll s.heap ks vs → NestedKey.depthAll ks ≤ n → ∀ v ∈ vs, ∀ (A : Around) (E : Value → Shared → Prop) (Q : Bool → Shared → Prop), Q false s → wpAny (model P w) A (ofAClassStatement n v) Q E s
  | _, _, n, s, .nil, _, v, hv => by cases hv
  | k :: ks, _, n, s, .cons h1 h2, hn, v, hv => by
    have hn : max k.depth (NestedKey.depthAll ks) ≤ n := hn
    rcases List.mem_cons.mp hv with rfl | hv
    · exact ofA_key k _ n s h1 (by omega)
    · exact ofA_keys ks _ n s h2 (by omega) v hv
end
mutual
theorem hashBy_key : ∀ (k : NestedKey) (v : Value) (n : Nat) (s : Shared), NestedIs s.heap k v → numk k = true → k.depth ≤ n → ∀ (A : Around) (E : Value → Shared → Prop) (Q : Bool → Shared → Prop), Q true s → wpAny (model P w) A (hashByValue n v) Q E s
  | _, _, n, s, .none, _, _, A, E, Q, h => by cases n <;> exact wpAny_pure h
  | _, _, n, s, .bool _, _, _, A, E, Q, h => by cases n <;> exact wpAny_pure h
  | _, _, n, s, .int _ _, _, _, A, E, Q, h => by cases n <;> exact wpAny_pure h
  | _, _, n, s, .text _ _, q, _, A, E, Q, h => by simp [numk] at q
  | .tup ks, _, n, s, .tup (a := a) (o := o) (vs := vs) ho hc hd hi, hq, hn, A, E, Q, h => by
    cases n with
    | zero => exact absurd hn (Nat.not_succ_le_zero _)
    | succ n =>
      have all := hashBy_keys ks vs.toList n s hi (by simpa [numk] using hq) (Nat.le_of_succ_le_succ hn)
      unfold hashByValue
      refine wpAny_bind (wpAny_specialOf (T := "tuple") ⟨o, ho, hc⟩ F.slot_tuple_hash.lookup ?_)
      show wpAny _ _ (seqItems? (.ref a) >>= _) _ _ s
      refine wpAny_bind (wpAny_seqItems ho hd (wpAny_bind ?_))
      show wpAny _ _ (forIn vs _ _) _ _ s
      rw [← Array.forIn_toList]
      refine wpAny_forIn_list _ (fun rest r s' => (r.1 = none ∧ s' = s) ∧ ∀ v ∈ rest, v ∈ vs.toList) _ ?_ ?_ _ _ ⟨⟨rfl, rfl⟩, fun _ h => h⟩
      · rintro v rest r s' ⟨⟨hr, rfl⟩, hall⟩
        refine wpAny_bind (all v (hall v List.mem_cons_self) _ _ _ ?_)
        simp only [Bool.not_true, Bool.false_eq_true, if_false]
        exact wpAny_pure ⟨⟨rfl, rfl⟩, fun u hu => hall u (List.mem_cons_of_mem _ hu)⟩
      · rintro ⟨r1, r2⟩ s' ⟨⟨hr, rfl⟩, _⟩
        simp only at hr
        subst hr
        exact wpAny_pure h
theorem hashBy_keys : ∀ (ks : List NestedKey) (vs : List Value) (n : Nat) (s : Shared), NestedAll s.heap ks vs → numks ks = true → NestedKey.depthAll ks ≤ n → ∀ v ∈ vs, ∀ (A : Around) (E : Value → Shared → Prop) (Q : Bool → Shared → Prop), Q true s → wpAny (model P w) A (hashByValue n v) Q E s
  | _, _, n, s, .nil, _, _, v, hv => by cases hv
  | k :: ks, _, n, s, .cons h1 h2, hq, hn, v, hv => by
    simp only [numks, Bool.and_eq_true] at hq
    have hn : max k.depth (NestedKey.depthAll ks) ≤ n := hn
    rcases List.mem_cons.mp hv with rfl | hv
    · exact hashBy_key k _ n s h1 hq.1 (by omega)
    · exact hashBy_keys ks _ n s h2 hq.2 (by omega) v hv
end
abbrev Nis (P : Program) (w : World) (h : Heap) (k : NestedKey) (a : Addr) : Prop := (nestedKind P w).is h k a
variable {A : Around} {E : Value → Shared → Prop} {s : Shared}
/-- a search among tuples shows nothing of the table -/
theorem seen_keys {k : NestedKey} {b : Addr} {Q : Bool → Shared → Prop} (hk : Nis P w s.heap k b) {ys : List Value} (hy : ∀ y ∈ ys, ∃ k' c, y = Value.ref c ∧ Nis P w s.heap k' c) (h : Q false s) :
    wpAny (model P w) A (searchCouldBeSeen (.ref b) ys) Q E s := by
  unfold searchCouldBeSeen
  refine wpAny_bind ?_
  refine wpAny_forIn_list _ (fun rest r s' => (r.1 = none ∧ s' = s) ∧ ∀ y ∈ rest, ∃ k' c, y = Value.ref c ∧ Nis P w s.heap k' c) _ ?_ ?_ _ _ ⟨⟨rfl, rfl⟩, hy⟩
  · rintro v rest r s' ⟨⟨hr, rfl⟩, hall⟩
    obtain ⟨k', c, rfl, hc⟩ := hall v List.mem_cons_self
    have more : ∀ y ∈ rest, ∃ k' c, y = Value.ref c ∧ Nis P w s'.heap k' c := fun u hu => hall u (List.mem_cons_of_mem _ hu)
    dsimp only
    by_cases hv : (b == c || (carriedByValue (.ref b) && carriedByValue (.ref c))) = true
    · exact wp_if_pos hv (wpAny_pure ⟨⟨rfl, rfl⟩, more⟩)
    · refine wp_if_neg hv (wpAny_bind ((nestedKind P w).quiet hk ?_))
      simp only [Bool.not_true, Bool.false_eq_true, if_false]
      refine wpAny_bind ((nestedKind P w).quiet hc ?_)
      simp only [Bool.not_true, Bool.false_eq_true, if_false]
      refine wpAny_bind (ofA_key k _ 8 _ hk.1 hk.2 _ _ _ ?_)
      simp only [Bool.false_eq_true, if_false]
      refine wpAny_bind (ofA_key k' _ 8 _ hc.1 hc.2 _ _ _ ?_)
      simp only [Bool.false_eq_true, if_false]
      exact wpAny_pure ⟨⟨rfl, rfl⟩, more⟩
  · rintro ⟨r1, r2⟩ s' ⟨⟨hr, rfl⟩, _⟩
    simp only at hr
    subst hr
    exact wpAny_pure h
/-! ### the set -/
def rowsK (w : World) (L : List (Addr × NestedKey)) : List (Int × Value) := L.map fun p => (p.2.hash w, Value.ref p.1)
theorem rowsK_len (L : List (Addr × NestedKey)) : (rowsK w L).length = L.length := List.length_map ..
abbrev hsK (w : World) (L : List (Addr × NestedKey)) : List Int := L.map fun p => p.2.hash w
structure KS (P : Program) (w : World) (h : Heap) (a : Addr) (L : List (Addr × NestedKey)) (es : Array (Int × Value)) (ep : Nat) (t : SetTable) : Prop where
  ob : ∃ o, h.get? a = some o ∧ o.ExactSet ∧ o.data = .set es ep t
  rows : es.toList = rowsK w L
  tab : TabG t (hsK w L)
  nd : (L.map (·.2)).Nodup
  tup : ∀ p ∈ L, Nis P w h p.2 p.1
  num : ∀ p ∈ L, numk p.2 = true
  plain : t.plain = true
  led : w.params.followText "set-order" = true ∨ t.led = true
  room : L.length * 5 < t.mask * 3
  msk : t.mask ≤ 2047
variable {a : Addr} {L : List (Addr × NestedKey)} {es : Array (Int × Value)} {ep : Nat} {t : SetTable}
theorem KS.size (R : KS P w s.heap a L es ep t) : es.size = L.length := by rw [← Array.length_toList, R.rows, rowsK_len]
theorem KS.fits (R : KS P w s.heap a L es ep t) : t.fits es.size = true := by
  have h1 : t.place.size = L.length := by rw [R.tab.sz, List.length_map]
  have h2 := R.size
  have h3 := R.room
  unfold SetTable.fits SetTable.fill
  rw [R.tab.dm, Bool.and_eq_true, beq_iff_eq, decide_eq_true_eq]
  exact ⟨by omega, by show t.place.size + 0 ≤ t.mask; omega⟩
theorem KS.entry (R : KS P w s.heap a L es ep t) {i : Nat} {p : Addr × NestedKey} (h : L[i]? = some p) : es[i]? = some (p.2.hash w, Value.ref p.1) := by
  rw [← Array.getElem?_toList, R.rows, rowsK, List.getElem?_map, h]; rfl
theorem KS.gw (R : KS P w s.heap a L es ep t) : ¬ t.gaveWay = true := by
  unfold SetTable.gaveWay
  rw [R.tab.mq.odd]
  decide
theorem nth_dummy (m : Nat) : ∀ (n : Nat) (p : SetTable.Probe), p.dummy = none → (nth m p n).dummy = none
  | 0, _, h => h
  | n + 1, p, h => nth_dummy m n (adv m p) (by unfold adv; split <;> exact h)
abbrev stand0 (m : Nat) (h : Int) (c : Nat) : SetTable.Probe := nth m (runAt m (SetTable.bits h % (m + 1)) (SetTable.bits h)) c
theorem stand0_add (m : Nat) (h : Int) (c q : Nat) : nth m (stand0 m h c) q = stand0 m h (c + q) := (nth_add m c _ q).symm
theorem ks_search (R : KS P w s.heap a L es ep t) {x : Addr} {k : NestedKey} (hx : Nis P w s.heap k x) (hu : A.units + 8 < cLine) {K : Nat} (hKf : K < 10 * SetTable.turns t.mask)
    (hK : way t.mask (k.hash w) K ∉ t.place.toList) (hKb : ∀ c, c < K → way t.mask (k.hash w) c ∈ t.place.toList) {Q : SetFound → Shared → Prop}
    (hin : k ∈ L.map (·.2) → Q (.there none) s) (hout : k ∉ L.map (·.2) → Q (.free (way t.mask (k.hash w) K) false) s) :
    ∀ (f c : Nat) (stand : Option SetTable.Probe), stand.getD (t.probeStart (k.hash w)) = stand0 t.mask (k.hash w) c → c ≤ K → K - c < f →
      (∀ (i : Nat) p, L[i]? = some p → p.2 = k → ∃ c', (c ≤ c' ∧ c' < K) ∧ t.place.toList[i]? = some (way t.mask (k.hash w) c')) →
      wpAny (model P w) A (setSearchFrom a (.ref x) (k.hash w) true f stand) Q E s
  | 0, c, stand, _, _, hf, _ => absurd hf (Nat.not_lt_zero _)
  | f + 1, c, stand, hst, hc, hf, hre => by
    obtain ⟨o, ho, hex, hd⟩ := R.ob
    have hgw := R.gw
    have at_ : ∀ q, (nth t.mask (stand0 t.mask (k.hash w) c) q).j = way t.mask (k.hash w) (c + q) := fun q => congrArg SetTable.Probe.j (stand0_add _ _ c q)
    have eK : c + (K - c) = K := by omega
    have spec := go_spec t R.tab.ris R.tab.dm (fun i => (es[i]?.map (·.1)).getD 0) (k.hash w) (10 * SetTable.turns t.mask) (K - c) (stand0 t.mask (k.hash w) c) (nth_dummy _ c _ rfl) (by omega)
      (fun q hq => by rw [at_]; exact hKb _ (by omega)) (by rw [at_, eK]; exact hK)
    have hashAt : ∀ (i : Nat) p, L[i]? = some p → (fun i => (es[i]?.map (·.1)).getD 0) i = p.2.hash w := fun i p hp => by
      show (es[i]?.map (·.1)).getD 0 = _
      rw [R.entry hp]; rfl
    rw [setSearchFrom_succ]
    refine wpAny_bind (wpAny_setState_of ho hd R.fits ?_)
    dsimp only
    refine wp_if_neg hgw ?_
    try refine wpAny_bind (wpAny_pure ?_)
    rcases spec with ⟨q, i, hq, hi, hh, hno, hpr⟩ | ⟨hno, hpr⟩
    · rw [at_] at hi hpr
      have pr : t.probe (fun i => (es[i]?.map (·.1)).getD 0) (k.hash w) (stand.getD (t.probeStart (k.hash w))) = some (.candidate (way t.mask (k.hash w) (c + q)) i (stand0 t.mask (k.hash w) (c + (q + 1)))) := by
        rw [hst, ← stand0_add]; exact hpr
      rw [pr]
      dsimp only
      have hil : i < L.length := by
        have h1 := (List.getElem?_eq_some_iff.mp hi).1
        have h2 := R.tab.sz
        rw [List.length_map] at h2
        rw [Array.length_toList] at h1
        omega
      obtain ⟨p, hpe⟩ : ∃ p, L[i]? = some p := ⟨_, List.getElem?_eq_getElem hil⟩
      have hmem : p ∈ L := List.mem_of_getElem? hpe
      have hpt := R.tup p hmem
      have rest : wpAny (model P w) A (searchRest a (.ref x) (k.hash w) true f es t (way t.mask (k.hash w) (c + q)) i (stand0 t.mask (k.hash w) (c + (q + 1)))) Q E s := by
        unfold searchRest
        rw [R.entry hpe]
        dsimp only
        refine wpAny_bind (wpAny_holding ((nestedKind P w).eqBool hu hpt hx ?_))
        refine wpAny_bind (wpAny_setState_of ho hd R.fits ?_)
        dsimp only
        by_cases hkk : p.2 = k
        · exact wp_if_pos (by simp [hkk]) (wpAny_pure (hin (List.mem_map.mpr ⟨p, hmem, hkk⟩)))
        · refine wp_if_neg (by simp [hkk]) ?_
          try refine wpAny_bind (wpAny_pure ?_)
          rw [sameMem]
          dsimp only
          have hsl : t.slot (way t.mask (k.hash w) (c + q)) = .live i := slot_live R.tab.ris hi
          simp only [if_true, hsl, R.entry hpe]
          refine wpAny_bind (wpAny_isSame_ref_self (wpAny_bind (wpAny_pure ?_)))
          simp only [if_true]
          refine wp_if_neg (by simp [hkk]) (ks_search R hx hu hKf hK hKb hin hout f (c + (q + 1)) _ rfl (by omega) (by omega) fun i0 p0 h0 hk0 => ?_)
          obtain ⟨c', ⟨a1, a2⟩, a3⟩ := hre i0 p0 h0 hk0
          refine ⟨c', ⟨?_, a2⟩, a3⟩
          have hh0 := (hashAt i0 p0 h0).trans (congrArg (NestedKey.hash w) hk0)
          refine Nat.lt_of_not_le fun z => ?_
          have z : c' ≤ c + q := z
          by_cases y : c' = c + q
          · rw [y] at a3
            have s0 := slot_live R.tab.ris a3
            rw [hsl] at s0
            cases s0
            rw [hpe] at h0
            cases h0
            exact hkk hk0
          · exact hno (c' - c) i0 (by omega) (by rw [at_, show c + (c' - c) = c' by omega]; exact a3) hh0
      by_cases hl : t.led = true
      · refine wp_if_neg (by simp [hl]) ?_
        try refine wpAny_bind (wpAny_pure ?_)
        exact rest
      · refine wp_if_pos (by simp [hl]) (wpAny_bind (seen_keys hx (fun y hy => ?_) ?_))
        · obtain ⟨e, he, ee⟩ := List.mem_map.mp hy
          have he1 : e ∈ es := by
            have : e ∈ es ∧ e.1 = k.hash w := by simpa using he
            exact this.1
          rw [← Array.mem_toList_iff, R.rows] at he1
          obtain ⟨p2, hp2, rfl⟩ := List.mem_map.mp he1
          exact ⟨p2.2, p2.1, ee.symm, R.tup p2 hp2⟩
        · refine wp_if_neg (by decide) ?_
          try refine wpAny_bind (wpAny_pure ?_)
          exact rest
    · rw [at_, eK] at hpr
      have pr : t.probe (fun i => (es[i]?.map (·.1)).getD 0) (k.hash w) (stand.getD (t.probeStart (k.hash w))) = some (.empty (way t.mask (k.hash w) K) none) := by rw [hst]; exact hpr
      rw [pr]
      dsimp only
      refine wpAny_pure (hout fun hm => ?_)
      obtain ⟨p0, h0, hk0⟩ := List.mem_map.mp hm
      obtain ⟨i0, h00⟩ := List.mem_iff_getElem?.mp h0
      obtain ⟨c', ⟨a1, a2⟩, a3⟩ := hre i0 p0 h00 hk0
      exact hno (c' - c) i0 (by omega) (by rw [at_, show c + (c' - c) = c' by omega]; exact a3) ((hashAt i0 p0 h00).trans (congrArg (NestedKey.hash w) hk0))
theorem Nis.same {h h' : Heap} {k : NestedKey} {b : Addr} {o : Obj} (hb : Nis P w h k b) (ho : h.get? a = some o) (hd : o.data = .set es ep t) (hs : Heap.SameBut a h h') : Nis P w h' k b :=
  nestedKind_stays.stays (fun c ob vs n hc hq => (hs.2 c fun z => by rw [z, ho] at hc; cases hc; rw [hd] at hq; cases hq).trans hc) hb
theorem Nis.keep {h h' : Heap} {k : NestedKey} {b : Addr} (x : Nis P w h k b) (hk : ∀ c o, h.get? c = some o → h'.get? c = some o) : Nis P w h' k b := nestedKind_stays.stays (fun c o _ _ hc _ => hk c o hc) x
/-- which masks there are -/
def Msk (m : Nat) : Prop := m = 7 ∨ m = 31 ∨ m = 127 ∨ m = 511 ∨ m = 2047
end
end VC

set_option Elab.async false
set_option linter.all false
set_option maxRecDepth 100000
set_option maxHeartbeats 4000000
/-! YC: set(xs), sorted(set(xs)), xs a list of nested tuples of ints. -/
namespace VC
open PySem PySem.Spec PyProof.Rows L2
/-- what the set has of the first i -/
structure GotK (ks : List (Addr × NestedKey)) (i : Nat) (L : List (Addr × NestedKey)) : Prop where
  sub : ∀ p ∈ L, p ∈ ks.take i
  all : ∀ p ∈ ks.take i, p.2 ∈ L.map (·.2)
  len : L.length ≤ i
section
variable {ks L L' : List (Addr × NestedKey)} {i : Nat} {x : Addr × NestedKey}
theorem GotK.zero (ks : List (Addr × NestedKey)) : GotK ks 0 [] := ⟨fun p h => by simp at h, fun p h => by simp at h, Nat.le_refl _⟩
theorem GotK.old (g : GotK ks i L) (h : ks[i]? = some x) (hm : x.2 ∈ L.map (·.2)) : GotK ks (i + 1) L := by
  have e := take_next h
  refine ⟨fun p hp => ?_, fun p hp => ?_, Nat.le_succ_of_le g.len⟩ <;> rw [e] at *
  · exact List.mem_append_left _ (g.sub p hp)
  · rcases List.mem_append.mp hp with z | z
    · exact g.all p z
    · rw [List.mem_singleton.mp z]; exact hm
theorem GotK.new (g : GotK ks i L) (h : ks[i]? = some x) (pm : L'.Perm (x :: L)) : GotK ks (i + 1) L' := by
  have e := take_next h
  refine ⟨fun p hp => ?_, fun p hp => ?_, by rw [pm.length_eq]; exact Nat.succ_le_succ g.len⟩
  · rw [e]
    rcases List.mem_cons.mp (pm.mem_iff.mp hp) with rfl | z
    · exact List.mem_append_right _ (List.mem_singleton.mpr rfl)
    · exact List.mem_append_left _ (g.sub p z)
  · rw [e] at hp
    rw [(pm.map (·.2)).mem_iff, List.map_cons]
    rcases List.mem_append.mp hp with z | z
    · exact List.mem_cons_of_mem _ (g.all p z)
    · rw [List.mem_singleton.mp z]; exact List.mem_cons_self
end
section
variable {P : Program} {w : World} {A : Around} {E : Value → Shared → Prop} {s : Shared}
theorem KS.keep {h h' : Heap} {a : Addr} {L : List (Addr × NestedKey)} {es : Array (Int × Value)} {ep : Nat} {t : SetTable} (R : KS P w h a L es ep t) (ha : ∀ o, h.get? a = some o → h'.get? a = some o) (ht : ∀ p ∈ L, Nis P w h' p.2 p.1) : KS P w h' a L es ep t := by
  obtain ⟨o, ho, r⟩ := R.ob
  exact ⟨⟨o, ha o ho, r⟩, R.rows, R.tab, R.nd, ht, R.num, R.plain, R.led, R.room, R.msk⟩
end
mutual
/-- ints, None and tuples of them -/
def numD : D → Bool
  | .non => true
  | .int _ => true
  | .tup xs => numDs xs
  | .str _ => false
  | .bl _ => false
  | .lst _ => false
  | .dct _ _ => false
  | .ref _ => false
  | .fn _ => false
  | .kst _ => false
  | .opq => false
def numDs : List D → Bool
  | [] => true
  | x :: xs => numD x && numDs xs
end
mutual
theorem numD_key : ∀ (d : D) (k : NestedKey), numD d = true → D.key d = some k → numk k = true
  | .non, _, _, e => by simp [D.key] at e; subst e; rfl
  | .int _, _, _, e => by simp [D.key] at e; subst e; rfl
  | .tup xs, k, h, e => by
    simp only [D.key, Option.map_eq_some_iff] at e
    obtain ⟨ks, e1, rfl⟩ := e
    exact (by simpa [numk] using numDs_key xs ks (by simpa [numD] using h) e1)
  | .str _, _, h, _ => by simp [numD] at h
  | .bl _, _, h, _ => by simp [numD] at h
  | .lst _, _, h, _ => by simp [numD] at h
  | .dct _ _, _, h, _ => by simp [numD] at h
  | .ref _, _, h, _ => by simp [numD] at h
  | .fn _, _, h, _ => by simp [numD] at h
  | .kst _, _, h, _ => by simp [numD] at h
  | .opq, _, h, _ => by simp [numD] at h
theorem numDs_key : ∀ (ds : List D) (ks : List NestedKey), numDs ds = true → D.keys ds = some ks → numks ks = true
  | [], _, _, e => by simp [D.keys] at e; subst e; rfl
  | x :: xs, _, h, e => by
    simp only [numDs, Bool.and_eq_true] at h
    simp only [D.keys] at e
    split at e
    · rename_i k ks e1 e2
      cases e
      simp only [numks, numD_key x k h.1 e1, numDs_key xs ks h.2 e2, Bool.and_self]
    · cases e
end
/-- tuples that a set may hold and that may be sorted -/
structure SkOk (ds : List D) : Prop where
  kok : ∀ d ∈ ds, kok d 8 = true
  isT : ∀ d ∈ ds, d.isT = true
  num : ∀ d ∈ ds, numD d = true
  len : ds.length ≤ 1200
  srt : SrtOk (ddp ds)
  okd : ∃ n, ∀ d ∈ ds, okd d n = true
section
variable {X : Cx} {pins : List (Addr × Obj)} {σ : L2.St} {H : Hp} {s : Shared} {g : Gh}
theorem keys_of (I : Inv X pins σ H s) : ∀ {ds : List D} {vs : List V} {us : List Value}, RepAll X.mg X.wk g H ds vs → Vals vs us → (∀ d ∈ ds, kok d 8 = true) → (∀ d ∈ ds, d.isT = true) → (∀ d ∈ ds, numD d = true) →
    ∃ ks : List (Addr × NestedKey), us = ks.map (fun p => Value.ref p.1) ∧ ds.map D.key = ks.map (fun p => some p.2) ∧ (∀ p ∈ ks, Nis X.prog X.w s.heap p.2 p.1 ∧ numk p.2 = true ∧ ∃ d ∈ ds, Rep X.mg X.wk g H d (.ref p.1) ∧ D.key d = some p.2)
  | _, _, _, .nil, r, _, _, _ => by cases r; exact ⟨[], rfl, rfl, fun p h => by simp at h⟩
  | d :: ds, _, _, .cons h t, r, k1, k2, k3 => by
    cases r with
    | cons r1 r2 =>
      obtain ⟨ks, e1, e2, e3⟩ := keys_of I t r2 (fun d hd => k1 d (List.mem_cons_of_mem _ hd)) (fun d hd => k2 d (List.mem_cons_of_mem _ hd)) (fun d hd => k3 d (List.mem_cons_of_mem _ hd))
      obtain ⟨nk, ek, dk⟩ := kok_key d 8 (k1 d (List.mem_cons_self ..))
      obtain ⟨b, rfl, _⟩ := Cont.isT (.inl h) (k2 d (List.mem_cons_self ..))
      cases r1
      refine ⟨(b, nk) :: ks, by rw [e1]; rfl, by rw [List.map_cons, List.map_cons, e2, ek], fun p hp => ?_⟩
      rcases List.mem_cons.mp hp with rfl | hp
      · exact ⟨⟨Rep.nested I h ek rfl, dk⟩, numD_key d nk (k3 d (List.mem_cons_self ..)) ek, d, List.mem_cons_self .., h, ek⟩
      · obtain ⟨a1, a2, d', a3, a4⟩ := e3 p hp
        exact ⟨a1, a2, d', List.mem_cons_of_mem _ a3, a4⟩
theorem back_of {ds : List D} : ∀ (L : List (Addr × NestedKey)), (∀ p ∈ L, ∃ d ∈ ds, Rep X.mg X.wk g H d (.ref p.1) ∧ D.key d = some p.2) → ∃ es : List D, RepAll X.mg X.wk g H es (L.map fun p => V.ref p.1) ∧ es.map D.key = L.map (fun p => some p.2) ∧ ∀ d ∈ es, d ∈ ds
  | [], _ => ⟨[], .nil, rfl, fun d h => by simp at h⟩
  | p :: L, h => by
    obtain ⟨d, h1, h2, h3⟩ := h p (List.mem_cons_self ..)
    obtain ⟨es, e1, e2, e3⟩ := back_of L fun q hq => h q (List.mem_cons_of_mem _ hq)
    refine ⟨d :: es, .cons h2 e1, by rw [List.map_cons, List.map_cons, e2, h3], fun x hx => ?_⟩
    rcases List.mem_cons.mp hx with rfl | hx
    · exact h1
    · exact e3 x hx
theorem refs_vals : ∀ (L : List (Addr × NestedKey)), Vals (L.map fun p => V.ref p.1) (L.map fun p => Value.ref p.1)
  | [] => .nil
  | p :: L => .cons rfl (refs_vals L)
end
end VC

set_option Elab.async false
set_option linter.all false
set_option maxRecDepth 100000
set_option maxHeartbeats 4000000
/-! YD: sorted(set(e)) as an expression. -/
namespace VC
open PySem PySem.Spec PyProof.Rows L2
def SsOk (ds : List D) : Prop := (∃ ns : List Int, ds = ns.map D.int ∧ ns.length ≤ 4000) ∨ SkOk ds
def opSS : O1
  | .lst ds, K => SsOk ds ∧ K (.own (.lst (srtD (ddp ds))))
  | _, _ => False
def wSS (W : WO) : WE := fun env S Q => W env S fun d env1 S1 => opSS (dr S1 d) fun t => Q t env1 S1
section
variable {X : Cx} {B : Hp} {g0 : Gh} {e : Expr} {p p2 q pos : Pos}
def tSS (X : Cx) (ta : TE) : TE := fun σ H Q => ta σ H fun x H1 => ∃ g d K, (∀ a, g.F a → ∃ o, H1 a = some o) ∧ Cont X.mg X.wk g H1 d x ∧ opSS d K ∧ ∀ z H', RK X g H1 K z H' → Q z H'
theorem rep_intsV {mg : Str → Option Value} {w : WK} {g : Gh} {H : Hp} : ∀ {ns : List Int} {vs : List V}, RepAll mg w g H (ns.map D.int) vs → vs = ns.map V.int
  | [], _, .nil => rfl
  | _ :: _, _, .cons r t => by cases r; rw [rep_intsV t]; rfl
theorem ints_repV {mg : Str → Option Value} {w : WK} {g : Gh} {H : Hp} : ∀ (ns : List Int), RepAll mg w g H (ns.map D.int) (ns.map V.int)
  | [] => .nil
  | n :: ns => .cons (.int n) (ints_repV ns)
end
end VC

set_option Elab.async false
set_option linter.all false
set_option maxRecDepth 100000
set_option maxHeartbeats 4000000
/-! YE: dicts walked by items, values as a list, d.get; ranges downwards; a tuple reversed. -/
namespace VC
open PySem PySem.Spec PyProof.Rows L2
/-! ### a dict's methods by values -/
def IsDv (H : Hp) (x : V) : Prop := ∃ a es ep, x = .ref a ∧ H a = some (.ext (DictAt a (es, ep)))
def tDm (r : List V → Hp → VK → Prop) (to : TE) (t : TA) : TE := fun σ H Q => to σ H fun x H1 => IsDv H1 x ∧ t σ H1 fun xs H2 => r (x :: xs) H2 Q
section
variable {X : Cx} {B : Hp} {g0 : Gh} {o e : Expr} {es : List Expr} {name : Str} {apos cpos : Pos} {id : String}
theorem pe_dm {r : List V → Hp → VK → Prop} {to : TE} {t : TA} (slot : Slot "dict" name id) (hty : typeOf (.builtin id) = pure (.type "method_descriptor")) (hm : CallR X (.builtin id) r) (ho : PE X o to) (ha : PA X (e :: es) t)
    (hbase : attributeBase o name X.env (eval o X.env) = eval o X.env := by rfl)
    (hfew : ((backTo cpos (starEach (e :: es) X.env)).all (fun x => !x.1) && (backToKw cpos (keywordEach [] X.env)).all (fun x => x.1.isSome)
      && decide ((e :: es).length + ([] : List Keyword).length + (if ([] : List Keyword).isEmpty then 0 else 1) < 30)) = true := by rfl)
    (hline : (apos.endLine == cpos.line) = true := by rfl) (hs : starEach (e :: es) X.env = (false, eval e X.env) :: starEach es X.env := by rfl) (hplain : (backTo cpos (starEach es X.env)).any (·.1) = false := by rfl) :
    PE X (.Call (.Attribute o name apos) (e :: es) [] cpos) (tDm r to t) := by
  refine ⟨fun pins s σ H Q I h => ?_⟩
  refine wpAny_Call_method_late hbase hfew hline rfl (thn (ho.run pins s σ H _ I h) fun v s1 ⟨x, H1, I1, r1, ⟨a, es', ep, ex, hd⟩, q1⟩ => ?_)
  subst ex
  cases r1
  obtain ⟨od, hod, hx, hdt⟩ := Inv.dct I1 hd
  refine ⟨"dict", id, PySem.F.plainAttrs_dict, slot, hty, ⟨od, hod, hx.1⟩, fun b e => by cases e; exact ⟨od, hod, hx.2.1⟩, ?_⟩
  have hA := ha.run cpos pins s1 σ H1 _ I1 q1
  rw [hs] at hA ⊢
  refine Calls.callWith_builtin (by show (false || (backTo cpos (starEach es X.env)).any (·.1)) = false; rw [hplain] <;> rfl) (Calls.evalArgs_plain ?_)
  exact thn hA fun us s2 ⟨vs, H2, I2, r2, q2⟩ => hm pins s2 σ H2 (.ref a :: vs) (.ref a :: us) Q I2 (.cons rfl r2) q2
def isDct : D → Prop
  | .dct _ _ => True
  | _ => False
theorem isDct_of {d : D} (h : isDct d) : ∃ ks vs, d = .dct ks vs := by
  cases d <;> first | exact ⟨_, _, rfl⟩ | exact h.elim
def wMth (op : ON) (Wo : WO) (Wu : WA) : WE := fun env S Q => Wo env S fun d env1 S1 => isDct (dr S1 d) ∧ Wu env1 S1 fun ds env2 S2 => op (dr S2 d :: ds.map (dr S2)) fun t => Q t env2 S2
theorem ve_mth {op : ON} {Wo : WO} {Wu : WA} (slot : Slot "dict" name id) (hty : typeOf (.builtin id) = pure (.type "method_descriptor")) (hm : OpN X (.builtin id) op) (ho : VO X B g0 o Wo) (ha : VU X B g0 (e :: es) Wu)
    (hbase : attributeBase o name X.env (eval o X.env) = eval o X.env := by rfl)
    (hfew : ((backTo cpos (starEach (e :: es) X.env)).all (fun x => !x.1) && (backToKw cpos (keywordEach [] X.env)).all (fun x => x.1.isSome)
      && decide ((e :: es).length + ([] : List Keyword).length + (if ([] : List Keyword).isEmpty then 0 else 1) < 30)) = true := by rfl)
    (hline : (apos.endLine == cpos.line) = true := by rfl) (hs : starEach (e :: es) X.env = (false, eval e X.env) :: starEach es X.env := by rfl) (hplain : (backTo cpos (starEach es X.env)).any (·.1) = false := by rfl) :
    VE X B g0 (.Call (.Attribute o name apos) (e :: es) [] cpos) (wMth op Wo Wu) := by
  refine VE.of (fun _ _ _ _ i q => ho.mono _ _ _ _ (fun d _ _ q => ⟨q.1, ha.mono _ _ _ _ (fun _ _ _ q => hm.mono _ _ _ (fun _ q => i _ _ _ q) q) q.2⟩) q) (pe_dm slot hty hm.callr ho.pe ha.pa hbase hfew hline hs hplain) fun σ H env S g Q R q => ?_
  refine ⟨env, S, g, _, R, q, fun x H1 ⟨g1, d, env1, S1, st1, R1, t1, q1, q2⟩ => ?_⟩
  have c := t1.cont R1.sto
  obtain ⟨ks, vs, hd⟩ := isDct_of q1
  have c' := c
  rw [hd] at c'
  obtain ⟨a, es', ep, rfl, h1, _⟩ := c'.dct
  refine ⟨⟨a, es', ep, rfl, h1⟩, env1, S1, g1, _, R1, q2, fun xs H2 ⟨g2, ds, env2, S2, st2, R2, t2, q3⟩ => ?_⟩
  refine ⟨g2, _, _, R2.sto.tr, .cons ((t1.stp st2).cont R2.sto) (t2.cont R2.sto), q3, fun z H3 ⟨t, hn, rr, k⟩ => ?_⟩
  exact ⟨g2, t, env2, S2, (st1.trans st2).trans (hn.stp R2.sto.tr), R2.new hn, R2.rt hn rr, k⟩
/-! d.get(k, x) -/
def opGet : ON
  | [.dct ks vs, k, x], K => (kok k 8 = true ∧ Kinds ks k ∧ vs.length = ks.length) ∧ (isVal x = true) ∧
    ((∃ (i : Nat) (y : D), ks[i]? = some k ∧ vs[i]? = some y ∧ K (.val y)) ∨ (k ∉ ks ∧ K (.val x)))
  | _, _ => False
where isVal : D → Bool
  | .int _ => true
  | .str _ => true
  | .non => true
  | .bl _ => true
  | _ => false
theorem opGet_rep {mg : Str → Option Value} {w : WK} {g : Gh} {H : Hp} {d : D} {x : V} (c : Cont mg w g H d x) (h : opGet.isVal d = true) : Rep mg w g H d x := by
  rcases c with r | ⟨b, m, h1, h2, h3⟩
  · exact r
  · exfalso
    cases m <;> cases h2 <;> simp [opGet.isVal] at h
theorem n_get (hu : X.A.units + 65 < cLine) : OpN X (.builtin "dict.get") opGet := by
  refine ⟨fun ds K K' i q => ?_, fun pins s σ H g ds vs us K I tr c r q => ?_⟩
  · unfold opGet at q ⊢
    split at q
    · obtain ⟨h, h2, q⟩ := q
      rcases q with ⟨j, y, h3, h4, q⟩ | ⟨h3, q⟩
      · exact ⟨h, h2, .inl ⟨j, y, h3, h4, i _ q⟩⟩
      · exact ⟨h, h2, .inr ⟨h3, i _ q⟩⟩
    · exact q
  · unfold opGet at q
    split at q
    · rename_i ks ws k x
      obtain ⟨⟨hk, kd, hl⟩, hx, q⟩ := q
      cases c with
      | cons c1 c =>
      cases c with
      | cons c2 c =>
      cases c with
      | cons c3 c =>
      cases c
      cases r with
      | cons r1 r =>
      cases r with
      | cons r2 r =>
      cases r with
      | cons r3 r =>
      cases r
      obtain ⟨a, es, ep, rfl, h1, hs, h3, n⟩ := c1.dct
      cases r1
      rename_i kx xx kv xv
      have rx := opGet_rep c3 hx
      obtain ⟨nk, ek, _⟩ := kok_key k 8 hk
      rcases kd with ⟨k1, k2⟩ | ⟨k1, k2⟩
      · obtain ⟨b, rfl, rk⟩ := c2.isT k1
        cases r2
        obtain ⟨xs, t, e, dd⟩ := Inv.dctH I h1 h3 n k2
        have is : (nestedKind X.prog X.w).is s.heap nk b := by
          obtain ⟨nk', e1, e2⟩ := kok_key k 8 hk
          rw [ek] at e1; cases e1
          exact ⟨Rep.nested I rk ek rfl, e2⟩
        have hu' : (nestedKind X.prog X.w).room X.A.in1 := by show X.A.units + 1 + 8 < cLine; omega
        have dk : s.heap.DictKeyed (nestedKind X.prog X.w) a (pairsH xs) := ⟨xs, dd, rfl⟩
        refine getOr_keyed hu' is hs dk ?_
        rw [valueAt_pairsH]
        rcases q with ⟨i, y, q1, q2, q⟩ | ⟨q1, q⟩
        · obtain ⟨p, dv, e1, rr1, rr2⟩ := TT3.at ek t n q1 q2
          rw [e1]
          exact ⟨dv, H, I.tok _, rr2, rk_rep rr1 q⟩
        · have e1 : atKey xs nk = none := by
            cases hz : atKey xs nk with
            | none => rfl
            | some p =>
              exfalso
              have : (atKey xs nk).isSome = true := by rw [hz]; rfl
              exact absurd (TT3.none hk ek t q1) (by rw [hz]; simp)
          rw [e1]
          exact ⟨xx, H, I.tok _, r3, rk_rep rx q⟩
      · obtain ⟨kk, rfl⟩ := kD_of k1
        have ki : keyIs kk kv = true := keyIs_of (P := X.prog) (w := X.w) (c2.isL k1) r2
        obtain ⟨xs, t, dd⟩ := Inv.dctL I h1 h3 n k2
        refine call_meetsIn PySem.F.slot_dict_get dd.typeIs PySem.F.entry_dict_get (PySem.F.args_dict_get_3 _ _ _) (meets_dict_get_default (mixKind X.prog X.w) a ki hs xv) ⟨_, dd.mapOf, ?_⟩
        rcases q with ⟨i, y, q1, q2, q⟩ | ⟨q1, q⟩
        · obtain ⟨u, dv, e1, rr1, rr2⟩ := LL3.at t n q1 q2
          rw [e1]
          exact ⟨dv, H, I.tok _, rr2, rk_rep rr1 q⟩
        · rw [LL3.none t q1]
          exact ⟨xx, H, I.tok _, r3, rk_rep rx q⟩
    · exact q.elim
end
/-! ### d.values() as a list -/
section
variable {P : Program} {w : World} {A : Around} {E : Value → Shared → Prop} {s : Shared} {r d : Addr} {es : Array DictEntry} {ep : Nat}
end
section
variable {X : Cx} {B : Hp} {g0 : Gh} {o : Expr} {p apos cpos pos : Pos}
def tVals (to : TE) : TE := fun σ H Q => to σ H fun x H1 => ∃ d es ep vs, x = .ref d ∧ H1 d = some (.ext (DictAt d (es, ep))) ∧ (d == sysModules) = false ∧ es.length ≤ 1000000 ∧ Vals vs (es.map (·.val)) ∧
  ∀ (q : Addr), H1 q = none → Q (.ref q) (upd H1 q (.lst vs))
def wVals (Wo : WO) : WE := fun env S Q => Wo env S fun d env1 S1 => match dr S1 d with
  | .dct ks vs => ks.length ≤ 1000000 ∧ Q (.own (.lst vs)) env1 S1
  | _ => False
end
/-! ### for k, v in d.items() -/
def itF (ks vs : List V) : Nat → List V := fun i => [ks.getD i .non, vs.getD i .non]
section
variable {X : Cx} {B : Hp} {g0 : Gh} {e : Expr} {apos cpos tpos : Pos} {elts : List Expr} {kk : Nat}
def iItX (tl : TE) : TI := fun σ H R => tl σ H fun x H1 => ∃ d es ep ks vs, x = .ref d ∧ H1 d = some (.ext (DictAt d (es, ep))) ∧ (d == sysModules) = false ∧ Vals ks (es.map (·.key)) ∧ Vals vs (es.map (·.val)) ∧
  R (Itx (fun H => H d = some (.ext (DictAt d (es, ep)))) es.length (itF ks vs)) H1
def iIt (W : WE) : WA := fun env S Q => W env S fun t env1 S1 => match t.d with
  | .dct ks vs => Q (zipD ks vs) env1 S1
  | _ => False
end
/-! ### range(i, j, -1) -/
@[irreducible] def dwnD (lo : Int) (n : Nat) : List D := (List.range n).map fun (i : Nat) => .int (lo - (i : Int))
section
variable {X : Cx} {B : Hp} {g0 : Gh} {tg a b c : Expr} {pos : Pos}
def iR3 (W : WA) : WA := fun env S Q => W env S fun ds env' S' => match ds with
  | [.int i, .int j, .int k] => (-(2 ^ 62) ≤ i ∧ i < 2 ^ 62 ∧ -(2 ^ 62) ≤ j ∧ j < 2 ^ 62 ∧ k = -1) ∧ Q (dwnD i (i - j).toNat) env' S'
  | _ => False
end
/-! ### a tuple's [::-1] -/
section
variable {prog : Program} {w : World} {A : Around} {E : Value → Shared → Prop} {s : Shared}
end
section
variable {X : Cx} {B : Hp} {g0 : Gh} {e : Expr} {k : Nat} {p1 p2 p3 pos : Pos}
def tRevT (K : PySem.W.Frag) (te : TE) : TE := fun σ H Q => te σ H fun x H1 => ∃ a xs, x = .ref a ∧ SqT K H1 a xs ∧ ∀ p, H1 p = none → Q (.ref p) (upd H1 p (.tup xs.reverse))
theorem RepAll.revD {mg : Str → Option Value} {w : WK} {g : Gh} {H : Hp} : ∀ {ds : List D} {vs : List V}, RepAll mg w g H ds vs → RepAll mg w g H ds.reverse vs.reverse
  | _, _, .nil => .nil
  | _, _, .cons h t => by
    rw [List.reverse_cons, List.reverse_cons]
    exact (RepAll.revD t).append (.cons h .nil)
def wRev (Wo : WO) : WE := fun env S Q => Wo env S fun d env1 S1 => match dr S1 d with
  | .tup ds => Q (.val (.tup ds.reverse)) env1 S1
  | _ => False
end
end VC

set_option Elab.async false
set_option linter.all false
set_option maxRecDepth 100000
set_option maxHeartbeats 4000000
/-! YF: dict comprehensions, their keys of any kind of the layer. -/
namespace VC
open PySem PySem.Spec PyProof.Rows L2
section
variable {X : Cx} {pins : List (Addr × Obj)} {s : Shared} {σ : L2.St} {H : Hp} {mg : Str → Option Value} {w : WK} {g : Gh} {a : Addr} {es : List DictEntry} {ep : Nat} {ks ds : List D} {k d : D}
end
section
variable {X : Cx} {B : Hp} {g0 : Gh}
/-- what a pair asks -/
def rLay (X : Cx) (D : Addr) (i v : V) (H : Hp) (Q : Hp → Prop) : Prop := ∃ es ep g ks ds k d, H D = some (.ext (DictAt D (es, ep))) ∧ (D == sysModules) = false ∧ RepEs X.mg X.wk g H ks ds es ∧ (ks.map VC.D.key).Nodup ∧ kok k 8 = true ∧ Kinds ks k ∧ ks.length < 1000000 ∧ Rep X.mg X.wk g H k i ∧ Rep X.mg X.wk g H d v ∧
  ((∃ j : Nat, ks[j]? = some k ∧ ∀ es' ep', RepEs X.mg X.wk g H ks (ds.set j d) es' → Q (upd H D (.ext (DictAt D (es', ep'))))) ∨ (k ∉ ks ∧ ∀ es' ep', RepEs X.mg X.wk g H (ks ++ [k]) (ds ++ [d]) es' → Q (upd H D (.ext (DictAt D (es', ep'))))))
/-- {k: v for target in iter if ..}: D the new dict, `rLay` what each pair asks -/
def tDcX (X : Cx) (ti : TI) (tg : TG) (tt : TT) (tk tv : TE) (vs : List Nat) : TE := fun σ H Q => ti σ H fun J Ha => ∀ D, Ha D = none → (D == sysModules) = false → ∃ W : Nat → Nat → Hp → Prop, (∃ m, W 0 m (upd Ha D (.ext (DictAt D ([], 0))))) ∧ ∀ i m Hb, W i m Hb →
  (J.stop i Hb ∧ Q (.ref D) Hb) ∨ (J.go i Hb ∧ ∃ Nx : Hp → Prop, (∀ Hc, Nx Hc → ∃ n, n < m ∧ W (i + 1) n Hc) ∧ ∀ x Hc, J.yld i Hb x Hc → tg x (wipe σ vs) Hc fun τ Hd => wipe τ vs = wipe σ vs ∧ tt τ Hd fun b He =>
    if b = true then tk τ He fun y Hf => tv τ Hf fun z Hg => rLay X D y z Hg Nx else Nx He)
end
end VC

set_option Elab.async false
set_option linter.all false
set_option maxRecDepth 100000
set_option maxHeartbeats 4000000
/-! YG: dict comprehensions as W's. -/
namespace VC
open PySem PySem.Spec PyProof.Rows L2
def dcW (vs : List Nat) (G : WG) (Wt : WT) (Wk Wv : WE) : List D → List D → List D → VEnv → Sto → (List D → List D → VEnv → Sto → Prop) → Prop
  | [], ks, ds, env, S, Q => Q ks ds env S
  | d :: rest, ks, ds, env, S, Q => G d env S fun env1 S1 => Wt env1 S1 fun b env2 S2 =>
    Ite b (Wk env2 S2 fun tk env3 S3 => Wv env3 S3 fun tv env4 S4 => (kok tk.d 8 = true ∧ Kinds ks tk.d ∧ ks.length < 100000) ∧
      ((∃ j : Nat, ks[j]? = some tk.d ∧ dcW vs G Wt Wk Wv rest ks (ds.set j tv.d) (wpE env4 vs) S4 Q) ∨ (tk.d ∉ ks ∧ dcW vs G Wt Wk Wv rest (ks ++ [tk.d]) (ds ++ [tv.d]) (wpE env4 vs) S4 Q)))
      (dcW vs G Wt Wk Wv rest ks ds (wpE env2 vs) S2 Q)
theorem dcW_mono {vs : List Nat} {G : WG} {Wt : WT} {Wk Wv : WE} (mg : MoG G) (mt : Mo Wt) (mk : Mo Wk) (mv : Mo Wv) {Q Q' : List D → List D → VEnv → Sto → Prop} (i : ∀ a b e s, Q a b e s → Q' a b e s) :
    ∀ items ks ds env S, dcW vs G Wt Wk Wv items ks ds env S Q → dcW vs G Wt Wk Wv items ks ds env S Q'
  | [], _, _, _, _, q => i _ _ _ _ q
  | d :: rest, ks, ds, _, _, q => mg _ _ _ _ _ (fun _ _ q => mt _ _ _ _ (fun b _ _ q => q.mono (mk _ _ _ _ fun _ _ _ q => mv _ _ _ _ (fun _ _ _ q => ⟨q.1, q.2.imp (fun ⟨j, h, q⟩ => ⟨j, h, dcW_mono mg mt mk mv i rest _ _ _ _ q⟩) (fun ⟨h, q⟩ => ⟨h, dcW_mono mg mt mk mv i rest _ _ _ _ q⟩)⟩) q) (dcW_mono mg mt mk mv i rest _ _ _ _)) q) q
def wDc (vs : List Nat) (Wi : WA) (G : WG) (Wt : WT) (Wk Wv : WE) : WE := fun env S Q => Wi env S fun items env1 S1 =>
  noOwn env1 vs = true ∧ dcW vs G Wt Wk Wv items [] [] (wpE env1 vs) S1 fun ks ds env2 S2 => Q (.own (.dct ks ds)) (rst env1 env2 vs) S2
section
variable {X : Cx} {B : Hp} {g0 : Gh} {kx vx tg iter : Expr} {ifs : List Expr} {scope : Scope} {own : List (Str × Nat)} {pos : Pos}
end
end VC

set_option Elab.async false
set_option linter.all false
set_option maxRecDepth 100000
set_option maxHeartbeats 4000000
/-! YH: l.index(x). -/
namespace VC
open PySem PySem.Spec PyProof.Rows L2
section
variable {X : Cx} {B : Hp} {g0 : Gh} {o e : Expr} {es : List Expr} {name : Str} {apos cpos : Pos} {id : String}
def opIdx : ON
  | [.lst ds, x], K => ((D.lst ds).cmp = true ∧ x.cmp = true) ∧ ∃ (j : Nat) (z : D), ds[j]? = some z ∧ D.eqv z x = true ∧ (∀ (m : Nat) (z' : D), m < j → ds[m]? = some z' → D.eqv z' x = false) ∧ K (.val (.int (j : Int)))
  | _, _ => False
def isLl : D → Prop
  | .lst _ => True
  | _ => False
def wLm (op : ON) (Wo : WO) (Wu : WA) : WE := fun env S Q => Wo env S fun d env1 S1 => isLl (dr S1 d) ∧ Wu env1 S1 fun ds env2 S2 => op (dr S2 d :: ds.map (dr S2)) fun t => Q t env2 S2
end
end VC

set_option Elab.async false
set_option linter.all false
set_option maxRecDepth 100000
set_option maxHeartbeats 4000000
/-! GA: a for within a generator's body, piece by piece. -/
namespace VC
open PySem PySem.Spec PyProof.Rows L2 GenW

section
variable {M : Model} {A : Around} {R : GenEnd} {Y : Protocol} {n : Nat} {s₀ : Shared} {c : Code} {fs : List Frame} {s : Shared} {env : Env}
  {K : Flow → Sem PySem.Fin} {J : Value → Sem PySem.Fin} {gd : Bool → Bool} {lv : List Value → List Value}
/-- the frame that a loop's call leaves -/
def loopFr (env : Env) (K : Flow → Sem PySem.Fin) (J : Value → Sem PySem.Fin) (gd : Bool → Bool) (lv : List Value → List Value) (c : Code) (p : Pos) : Frame :=
  .ret (fun r => ((match r with | .ok f => (.pure f : Sem Flow) | .error e => .raise e).onRaise (cameBack env)).wrap K J gd lv) none (gd false) (lv []) c p []
end
section
variable {prog : Program} {w : World} {A : Around} {R : GenEnd} {Y : Protocol} {n : Nat} {s₀ : Shared} {fs : List Frame} {s : Shared} {env : Env}
/-- what a loop does with an exception -/
def loopEx (env : Env) : Value → Sem PySem.Fin := fun e => (do noteFrame e env; theTreesLotGoes e : Sem Unit).wrap (fun _ => .raise e) .raise id id
end
end VC

set_option Elab.async false
set_option linter.all false
set_option maxRecDepth 100000
set_option maxHeartbeats 4000000
/-! GB: a generator's frame between its turns. -/
namespace VC
open PySem PySem.Spec PyProof.Rows L2 GenW

/-! ### what a generator knows of the heap: tuples, lists, things told by their one object -/
def immO : HO → Bool
  | .tup _ => true
  | .lst _ => true
  | .ext _ => true
  | .frz _ u => match u with
    | .lst _ => true
    | _ => false
  | _ => false
def Hg (H : Hp) : Hp := fun b => match H b with
  | some o => if immO o = true then some o else none
  | none => none
theorem Hg_some {H : Hp} {b : Addr} {o : HO} (e : H b = some o) (i : immO o = true) : Hg H b = some o := by
  unfold Hg; rw [e]; exact if_pos i
theorem Hg_none {H : Hp} {b : Addr} (e : H b = none) : Hg H b = none := by unfold Hg; rw [e]
def gg (g : Gh) (H : Hp) : Gh := ⟨fun a => g.F a ∧ ∃ o, Hg H a = some o, []⟩
mutual
/-- no object of the store within -/
def D.nr : D → Bool
  | .ref _ => false
  | .tup xs => D.nrs xs
  | .lst xs => D.nrs xs
  | .kst xs => D.nrs xs
  | .dct ks vs => D.nrs ks && D.nrs vs
  | .non => true
  | .bl _ => true
  | .int _ => true
  | .str _ => true
  | .fn _ => true
  | .opq => true
def D.nrs : List D → Bool
  | [] => true
  | x :: xs => D.nr x && D.nrs xs
end
section
variable {mg : Str → Option Value} {w : WK} {g : Gh} {H : Hp}
mutual
theorem rep_gg : ∀ {d : D} {v : V}, D.nr d = true → Rep mg w g H d v → Rep mg w (gg g H) (Hg H) d v
  | _, _, _, .non => .non
  | _, _, _, .bl _ => .bl _
  | _, _, _, .int _ => .int _
  | _, _, _, .str _ => .str _
  | _, _, n, .tup h1 h2 => .tup (Hg_some h1 rfl) (repAll_gg (by simpa only [D.nr] using n) h2)
  | _, _, n, .lst (a := a) (vs := vs) h0 h1 h2 => by
    have h1' : Rd (Hg H) a (.lst vs) := by
      rcases h1 with h1 | ⟨o, h1⟩
      · exact .inl (Hg_some h1 rfl)
      · exact .inr ⟨o, Hg_some h1 rfl⟩
    refine .lst ⟨h0, ?_⟩ h1' (repAll_gg (by simpa only [D.nr] using n) h2)
    rcases h1' with h | ⟨o, h⟩ <;> exact ⟨_, h⟩
  | _, _, n, .dct h0 h1 h2 h3 h4 => by
    simp only [D.nr, Bool.and_eq_true] at n
    exact .dct ⟨h0, _, Hg_some h1 rfl⟩ (Hg_some h1 rfl) h2 (repEs_gg n.1 n.2 h3) h4
  | _, _, n, .ref _ => by simp [D.nr] at n
  | _, _, _, .fn h => .fn h
  | _, _, n, .kst (a := a) (vs := vs) h1 h2 => by
    refine .kst ?_ (repAll_gg (by simpa only [D.nr] using n) h2)
    refine h1.imp (fun ⟨hF, hR⟩ => ?_) id
    have h1' : Rd (Hg H) a (.lst vs) := by
      rcases hR with h1 | ⟨o, h1⟩
      · exact .inl (Hg_some h1 rfl)
      · exact .inr ⟨o, Hg_some h1 rfl⟩
    exact ⟨⟨hF, by rcases h1' with h | ⟨o, h⟩ <;> exact ⟨_, h⟩⟩, h1'⟩
  | _, _, _, .opq => .opq
theorem repAll_gg : ∀ {ds : List D} {vs : List V}, D.nrs ds = true → RepAll mg w g H ds vs → RepAll mg w (gg g H) (Hg H) ds vs
  | _, _, _, .nil => .nil
  | _, _, n, .cons h1 h2 => by
    simp only [D.nrs, Bool.and_eq_true] at n
    exact .cons (rep_gg n.1 h1) (repAll_gg n.2 h2)
theorem repEs_gg : ∀ {ks ds : List D} {es : List DictEntry}, D.nrs ks = true → D.nrs ds = true → RepEs mg w g H ks ds es → RepEs mg w (gg g H) (Hg H) ks ds es
  | _, _, _, _, _, .nil => .nil
  | _, _, _, n, m, .cons h1 h2 h3 h4 h5 h5' h6 h7 => by
    simp only [D.nrs, Bool.and_eq_true] at n m
    exact .cons (rep_gg n.1 h1) h2 (rep_gg m.1 h3) h4 h5 h5' h6 (repEs_gg n.2 m.2 h7)
end
end
section
variable {P : Program} {w : World} {H H' : Hp} {h h' : Heap}
end
/-! ### the part of a heap below L -/
def trunc (L : Nat) (h : Heap) : Heap := ⟨h.objs.extract 0 L, h.life⟩
theorem ext_sz {α : Type} (a : Array α) (L : Nat) : (a.extract 0 L).size = min L a.size := by rw [Array.size_extract]; omega
theorem ext_at {α : Type} {a : Array α} {L b : Nat} (hb : b < L) : (a.extract 0 L)[b]? = a[b]? := by
  rw [Array.getElem?_extract]
  by_cases h : b < a.size
  · rw [if_pos (by omega), Nat.zero_add]
  · rw [if_neg (by omega), Array.getElem?_eq_none (by omega)]
theorem trunc_at {L : Nat} {h : Heap} {b : Addr} {o : Obj} (hb : b < L) (e : h.get? b = some o) : (trunc L h).get? b = some o := by
  have q : (trunc L h).objs[b]? = h.objs[b]? := ext_at hb
  unfold Heap.get? at e ⊢
  rw [q]
  exact e
theorem trunc_le {L : Nat} {h : Heap} : (trunc L h).objs.size ≤ L := by
  show (h.objs.extract 0 L).size ≤ L
  rw [ext_sz]; exact Nat.min_le_left _ _

/-! ### the frame -/
structure GD where
  P : Program
  w : World
  K : PySem.W.Frag
  mg : Str → Option Value
  base : Heap
  N : List Str
  qual : Str
  scope : Scope
  f : Addr
  cd : Value
  A : Around
  outer : List Env
  L : Addr
  H : Hp
abbrev GD.env (G : GD) : Env := envOfC G.qual G.scope G.L G.f G.cd
structure GD.Ok (G : GD) : Prop where
  hd : G.A.handled = none
  frames : G.A.frames = some G.outer
  mod : Mod G.K G.mg G.base
  bsz : G.base.objs.size ≤ G.L
  bsH : ∀ b o, G.base.get? b = some o → G.H b = none
  frf : ∀ b ∈ frs G.outer, G.H b = none ∧ b < G.L
  young : ∀ b, G.L ≤ b → G.H b = none
  kind : G.scope.kind = .function
  loc : ∀ x ∈ G.N, G.scope.names.lookup x = some .local
  only : ∀ y ∈ G.scope.names, y.2 ≠ .cell ∧ y.2 ≠ .free
  nocell : cellsFrom (G.L + 1) G.scope.names [] = []
  nd : G.N.Nodup
/-- its context at a moment; pn: what its consumer wants kept -/
def GD.cx (G : GD) (s : Shared) (pn : List (Addr × Obj)) : Cx where
  prog := G.P
  w := G.w
  K := G.K
  mg := G.mg
  base := G.base
  A := G.A.deeper G.env
  N := G.N
  s_0 := { s with heap := trunc G.L s.heap }
  H_0 := Hg G.H
  env := G.env
  outer := G.outer
  stack := G.env :: G.outer
  ex := []
  calm := true
  fn := fun _ => true
  pn := pn
  xe := fun _ _ => False
/-- what stands at every moment -/
structure GD.Ly (G : GD) (kp : List Addr) (s : Shared) : Prop where
  bare : AllBare s.gens
  bk : ∀ b o, G.base.get? b = some o → s.heap.get? b = some o
  funs : s.heap.FunFrames G.base G.outer
  hok : HOk G.P G.w G.H s.heap
  kp : ∀ b ∈ kp, ∃ o, s.heap.get? b = some o ∧ ∀ v, o.data ≠ .cell v
/-- the names -/
structure GD.Nm (G : GD) (σ : L2.St) (s : Shared) : Prop where
  len : σ.length = G.N.length
  ns : ∃ m, s.heap.Ns G.L m ∧ ∀ (i : Nat) (x : Str) (v : V), G.N[i]? = some x → σ[i]? = some (some v) → ∃ u, RelV v u ∧ m x = some u
/-- what the consumer wants kept: no part of the frame -/
structure GD.Kp (G : GD) (kp : List Addr) : Prop where
  young : ∀ b ∈ kp, G.L < b
theorem mem_pins {fp : List Addr} {h : Heap} {p : Addr × Obj} (hp : p ∈ pinsAt fp h) : p.1 ∈ fp ∧ h.get? p.1 = some p.2 := of_pinsAt hp
section
variable {G : GD} {kp : List Addr} {s : Shared} {σ : L2.St}
theorem fun_trunc {base : Heap} {L : Nat} {h : Heap} : ∀ {l : List Env}, (∀ b ∈ frs l, b < L) → h.FunFrames base l → (trunc L h).FunFrames base l
  | [], _, _ => trivial
  | env :: r, hb, hl => by
    obtain ⟨hk, ⟨A, o, hf, hn, ho, hd⟩, hr⟩ := hl
    have hm : A ∈ frs (env :: r) := by unfold frs; rw [List.filterMap_cons, hf]; exact List.mem_cons_self
    refine ⟨hk, ⟨A, o, hf, hn, trunc_at (hb A hm) ho, hd⟩, fun_trunc (fun b h => hb b ?_) hr⟩
    unfold frs; rw [List.filterMap_cons, hf]; exact List.mem_cons_of_mem _ h
end
/-- what its consumer may rely on, from a waking on -/
structure GD.Kept (G : GD) (kp : List Addr) (s s1 : Shared) : Prop where
  os : s1.os = s.os
  bare : AllBare s1.gens
  keep : ∀ b o, (b < G.L ∧ b ∉ frs G.outer ∧ G.H b = none) ∨ b ∈ kp → s.heap.get? b = some o → s1.heap.get? b = some o
  slot : ∀ b o, b ∈ frs G.outer → s.heap.get? b = some o → ∃ sl, s1.heap.get? b = some { o with slots := sl }
  there : ∀ b o, b < G.L → s.heap.get? b = some o → ∃ o', s1.heap.get? b = some o'
  hok : HOk G.P G.w G.H s1.heap
/-- what it relies on while it sleeps -/
structure GD.Slept (G : GD) (kp : List Addr) (s s1 : Shared) : Prop where
  ly : G.Ly kp s1
  keep : ∀ b o, b ∉ kp → b ∉ frs G.outer → s.heap.get? b = some o → s1.heap.get? b = some o
section
variable {G : GD} {kp : List Addr} {s s1 s2 : Shared} {σ : L2.St}
theorem GD.Kept.refl (ly : G.Ly kp s) : G.Kept kp s s := ⟨rfl, ly.bare, fun _ _ _ e => e, fun b o _ e => ⟨o.slots, e⟩, fun b o _ e => ⟨o, e⟩, ly.hok⟩
theorem GD.Kept.trans (ok : G.Ok) (a : G.Kept kp s s1) (b : G.Kept kp s1 s2) : G.Kept kp s s2 :=
  ⟨b.os.trans a.os, b.bare, fun x o h e => b.keep x o h (a.keep x o h e), fun x o h e => by
    obtain ⟨sl, e1⟩ := a.slot x o h e
    obtain ⟨sl2, e2⟩ := b.slot x _ h e1
    exact ⟨sl2, e2⟩, fun x o h e => by
    obtain ⟨o1, e1⟩ := a.there x o h e
    exact b.there x o1 h e1, b.hok⟩
/-- woken: the names are as they were -/
theorem GD.woken (ok : G.Ok) (hk : G.Kp kp) (nm : G.Nm σ s) (z : G.Slept kp s s1) : G.Nm σ s1 := by
  obtain ⟨m, hn, hl⟩ := nm.ns
  refine ⟨nm.len, m, ?_, hl⟩
  obtain ⟨o, es, ep, ho, r⟩ := hn
  refine ⟨o, es, ep, z.keep G.L o (fun h => Nat.lt_irrefl _ (hk.young _ h)) (fun h => Nat.lt_irrefl _ (ok.frf _ h).2) ho, r⟩
end
end VC

set_option Elab.async false
set_option linter.all false
set_option maxRecDepth 100000
set_option maxHeartbeats 4000000
/-! GC: two loops, one within the other, that hand out a triple at each turn. -/
namespace VC
open PySem PySem.Spec PyProof.Rows L2 GenW

/-- J hands out these, the heap as it was -/
def JV (J : It) (H : Hp) (xs : List V) : Prop := (∀ (i : Nat) (x : V), xs[i]? = some x → J.go i H ∧ ∀ y H2, J.yld i H y H2 → H2 = H ∧ y = x) ∧ J.stop xs.length H
/-- what it hands out and asks for -/
def GD.Y (G : GD) (kp : List Addr) (outs : List (List V)) : Protocol := fun n s₀ v s1 kap =>
  G.Kept kp s₀ s1 ∧ G.Ly kp s1 ∧ (∃ (k : Nat) (p : Addr) (its : Array Value) (vs : List V), n + 1 + k = outs.length ∧ v = .ref p ∧ IsTup s1.heap p its ∧ outs[k]? = some vs ∧ Vals vs its.toList) ∧ ∀ s', G.Slept kp s1 s' → kap (.send .none) s'
def GD.R (G : GD) (kp : List Addr) : GenEnd := fun n s₀ r s1 => ((r = .ok (.ret .none) ∨ r = .ok .next) ∧ n = 0 ∧ G.Kept kp s₀ s1) ∨ ∃ e, r = .error e ∧ (fun (_ : Value) (_ : Shared) => False) e s1
/-- where its code stands -/
structure Fr0 (G : GD) (c : Code) (fs : List Frame) : Prop where
  over : G.A.over c fs = G.A.deeper G.env
  split : splitAtGen fs = none
  guard : fs.any Frame.guarded = false
theorem Fr0.loop {G : GD} {c c' : Code} {fs : List Frame} {K : Flow → Sem PySem.Fin} {J : Value → Sem PySem.Fin} {gd : Bool → Bool} {lv : List Value → List Value} {p : Pos} (h : Fr0 G c fs) (hg : gd false = false) (hw : c'.weight = 0) (hu : c'.cUnits = 0) :
    Fr0 G c' (loopFr G.env K J gd lv c p :: fs) where
  over := (over_loop hw hu).trans h.over
  split := by
    show (splitAtGen fs).map _ = none
    rw [h.split]; rfl
  guard := by
    show (gd false || fs.any Frame.guarded) = false
    rw [hg, h.guard]; rfl
/-- objects of its own -/
def GD.Own (G : GD) (kp fp : List Addr) : Prop := ∀ b ∈ fp, G.L < b ∧ b ∉ kp
section
variable {G : GD} {kp : List Addr} {s s1 : Shared} {σ : L2.St}
theorem GD.Own.fp (ok : G.Ok) (ly : G.Ly kp s) {fp : List Addr} {pins : List (Addr × Obj)} (o : G.Own kp fp) (hp : ∀ p ∈ pins, p.1 ∉ fp) : ∀ b ∈ fp, FpOk (G.cx s (pinsAt kp s.heap)) pins (Hg G.H) b := fun b hb => by
  obtain ⟨h1, h2⟩ := o b hb
  refine ⟨Hg_none (ok.young b (Nat.le_of_lt h1)), Nat.ne_of_gt h1, fun z => Nat.lt_irrefl _ (Nat.lt_trans h1 (ok.frf b z).2), .inr (Nat.le_trans trunc_le (Nat.le_of_lt h1)), fun x c e => ?_, fun p hpp z => ?_⟩
  · have e' : (cellsFrom (G.L + 1) G.scope.names []).lookup x = some c := e
    rw [ok.nocell] at e'
    simp at e'
  · rcases List.mem_append.mp hpp with q | q
    · exact h2 (z ▸ (mem_pins q).1)
    · exact hp p q (z ▸ hb)
end
section
variable {G : GD} {kp : List Addr} {outs : List (List V)}
variable {fp1 fp2 : List Addr} {it1 it2 : Addr} {tn1 tn2 : Nat → Heap → Prop} {J1 J2 : It} {xp xl : Str} {pp pl pp' pl' yp ep tp : Pos} {tk : Nat} {e1 : Expr} {kvs lv : List V} {gp : Nat → Nat → Int}
/-- what stands of the slots: the arguments -/
def ArgOk (vs : List V) (σ : L2.St) : Prop := σ.length = 6 ∧ ∀ (i : Nat) (v : V), vs[i]? = some v → σ[i]? = some (some v)
theorem ArgOk.set {vs : List V} {σ : L2.St} {i : Nat} {x : V} (h : ArgOk vs σ) (hi : vs.length ≤ i) : ArgOk vs (σ.set i (some x)) :=
  ⟨by rw [List.length_set]; exact h.1, fun j v e => by
    have hj := (List.getElem?_eq_some_iff.mp e).1
    rw [List.getElem?_set_ne (by omega)]
    exact h.2 j v e⟩
/-- the facts of the triple's first item -/
def ItemOk (G : GD) (e1 : Expr) (vs kvs lv : List V) (gp : Nat → Nat → Int) : Prop := ∀ (s : Shared) (pn : List (Addr × Obj)), ∃ t1, PE (G.cx s pn) e1 t1 ∧
  ∀ (i j : Nat) (x l : V) (σ : L2.St) (Q : VK), kvs[i]? = some x → lv[j]? = some l → ArgOk vs σ → σ[4]? = some (some x) → σ[5]? = some (some l) → (∀ H1, (∀ b o, Hg G.H b = some o → H1 b = some o) → Q (.int (gp i j)) H1) → t1 σ (Hg G.H) Q
abbrev yieldSt (e1 : Expr) (xp xl : Str) (pp' pl' yp ep tp : Pos) (tk : Nat) : Stmt := .Expr (.Yield (some (.Tuple [e1, .Name xp pp', .Name xl pl'] tk tp)) yp) ep
abbrev innerSt (e1 : Expr) (xp xl xm : Str) (pl pm pf pp' pl' yp ep tp : Pos) (tk : Nat) : Stmt := .For (.Name xl pl) (.Name xm pm) [yieldSt e1 xp xl pp' pl' yp ep tp tk] [] pf
end
end VC

set_option Elab.async false
set_option linter.all false
set_option maxRecDepth 100000
set_option maxHeartbeats 4000000
/-! GE: such a generator made, and asked for its next item. -/
namespace VC
open PySem PySem.Spec PyProof.Rows L2 GenW

section
variable {G : GD} {kp : List Addr} {s s1 s2 : Shared} {σ : L2.St}
theorem GD.Slept.refl (ly : G.Ly kp s) : G.Slept kp s s := ⟨ly, fun _ _ _ _ e => e⟩
theorem GD.Slept.trans (a : G.Slept kp s s1) (b : G.Slept kp s1 s2) : G.Slept kp s s2 := ⟨b.ly, fun x o h1 h2 e => b.keep x o h1 h2 (a.keep x o h1 h2 e)⟩
theorem GD.Ly.gens (ly : G.Ly kp s) {gs : Array GenState} (h : AllBare gs) : G.Ly kp { s with gens := gs } := ⟨h, ly.bk, ly.funs, ly.hok, ly.kp⟩
/-- asleep: k items are out -/
def GD.Rdy (G : GD) (kp : List Addr) (outs : List (List V)) (a gn : Nat) (k : Nat) (s : Shared) : Prop :=
  s.heap.IsGen a gn ∧ ∃ (n : Nat) (gs : GenState) (s1 : Shared), n + k = outs.length ∧ s.gens[gn]? = some gs ∧ G.Slept kp s1 s ∧ ∀ s', G.Slept kp s1 s' → gs.Goes (model G.P G.w) G.A (G.R kp) (G.Y kp outs) n (.send .none) s'
end

/-! ### the call -/
section
variable {X : Cx} {k : Nat} {f : Addr} {name qual : Str} {params : Arguments} {body : List Stmt} {scope : Scope} {dV kV doc pm cdv ct oc : Value} {an od : Option Addr} {osl : Array (Option Value)} {N ps : List Str}
/-- what the call gives -/
structure Made (X : Cx) (qual : Str) (scope : Scope) (f : Addr) (cdv : Value) (body : List Stmt) (N : List Str) (vs : List V) (s : Shared) (a gn : Nat) (s' : Shared) : Prop where
  lt : s.heap.objs.size < a
  gen : s'.heap.IsGen a gn
  fresh : s'.gens[gn]? = some (.fresh (.func body (envOfC qual scope s.heap.objs.size f cdv)))
  os : s'.os = s.os
  bare : AllBare s'.gens
  keep : ∀ b o, s.heap.get? b = some o → s'.heap.get? b = some o
  ns : ∃ m, s'.heap.Ns s.heap.objs.size m ∧ ∀ (i : Nat) (x : Str) (v : V), N[i]? = some x → (L2.start N vs)[i]? = some (some v) → ∃ u, RelV v u ∧ m x = some u
end
end VC

set_option Elab.async false
set_option linter.all false
set_option maxRecDepth 100000
set_option maxHeartbeats 4000000
/-! GF: the consumer of such a generator: steps that keep all but the frame's own names. -/
namespace VC
open PySem PySem.Spec PyProof.Rows L2 GenW

/-- no generator woken, nothing written but the names -/
structure Cl (X : Cx) (s s' : Shared) : Prop where
  gens : s'.gens = s.gens
  keep : ∀ b o, b ≠ X.env.locals → s.heap.get? b = some o → s'.heap.get? b = some o
section
variable {X : Cx} {pins : List (Addr × Obj)} {σ : L2.St} {H : Hp} {s s' s1 s2 : Shared}
theorem Cl.refl : Cl X s s := ⟨rfl, fun _ _ _ e => e⟩
theorem Cl.trans (a : Cl X s s1) (b : Cl X s1 s2) : Cl X s s2 := ⟨b.gens.trans a.gens, fun x o h e => b.keep x o h (a.keep x o h e)⟩
end

/-! ### the generator in its consumer's context -/
section
variable {X : Cx} {pins : List (Addr × Obj)} {σ : L2.St} {H : Hp} {s s' s1 s2 : Shared}
/-- the consumer's frame runs -/
def Run (X : Cx) : Prop := X.calm = true ∧ X.stack = X.env :: X.outer ∧ X.env.frame = some X.env.locals
def gdOf (X : Cx) (H : Hp) (L : Addr) (N : List Str) (qual : Str) (scope : Scope) (f : Addr) (cdv : Value) : GD :=
  { P := X.prog, w := X.w, K := X.K, mg := X.mg, base := X.base, N := N, qual := qual, scope := scope, f := f, cd := cdv, A := X.A.in1, outer := X.stack, L := L, H := H }
variable {N ps : List Str} {qual : Str} {scope : Scope} {f : Addr} {cdv : Value}
/-- what lies below the generator's frame -/
structure Low (X : Cx) (pins : List (Addr × Obj)) (L : Addr) : Prop where
  loc : X.env.locals < L
  cell : ∀ x c, X.env.cells.lookup x = some c → c < L
  pin : ∀ p ∈ X.pn ++ pins, p.1 < L
end
end VC

set_option Elab.async false
set_option linter.all false
set_option maxRecDepth 100000
set_option maxHeartbeats 4000000
/-! GH: the generator def gaps_of: its text, its triples; a for over it. -/
namespace VC
open PySem PySem.Spec PyProof.Rows L2 GenW

/-! ### lists -/
theorem flat2_len {α β γ : Type} (f : α → β → γ) : ∀ (as : List α) (bs : List β), (as.flatMap fun a => bs.map (f a)).length = as.length * bs.length
  | [], bs => by simp
  | a :: as, bs => by rw [List.flatMap_cons, List.length_append, List.length_map, flat2_len f as bs, List.length_cons, Nat.succ_mul, Nat.add_comm]
theorem flat2_at {α β γ : Type} (f : α → β → γ) : ∀ (as : List α) (bs : List β) (i j : Nat) (a : α) (b : β), as[i]? = some a → bs[j]? = some b → (as.flatMap fun a => bs.map (f a))[i * bs.length + j]? = some (f a b)
  | [], bs, i, j, a, b, h, _ => by simp at h
  | a0 :: as, bs, 0, j, a, b, h, h2 => by
    have hj := (List.getElem?_eq_some_iff.mp h2).1
    simp at h
    subst h
    rw [List.flatMap_cons, Nat.zero_mul, Nat.zero_add, List.getElem?_append_left (by rw [List.length_map]; exact hj), List.getElem?_map, h2]
    rfl
  | a0 :: as, bs, i + 1, j, a, b, h, h2 => by
    rw [List.flatMap_cons, List.getElem?_append_right (by rw [List.length_map, Nat.succ_mul]; omega), List.length_map]
    have e : (i + 1) * bs.length + j - bs.length = i * bs.length + j := by rw [Nat.succ_mul]; omega
    rw [e]
    exact flat2_at f as bs i j a b (by simpa using h) h2
theorem zip_at {α β : Type} : ∀ {as : List α} {bs : List β} {i : Nat} {a : α} {b : β}, as[i]? = some a → bs[i]? = some b → (as.zip bs)[i]? = some (a, b)
  | [], _, _, _, _, h, _ => by simp at h
  | _ :: _, [], _, _, _, _, h => by simp at h
  | a0 :: as, b0 :: bs, 0, a, b, h, h2 => by simp at h h2; subst h h2; rfl
  | a0 :: as, b0 :: bs, i + 1, a, b, h, h2 => by
    show (as.zip bs)[i]? = _
    exact zip_at (by simpa using h) (by simpa using h2)

/-! ### the def's text -/
abbrev gapN : List Str := ["first", "other", "found", "moves", "pair", "levels"]
/-- other[pair[1]][levels[1]][0] - first[pair[0]][levels[0]][0] -/
def IsGapE (e : Expr) : Prop := ∃ (q1 q2 q3 q4 q5 q6 q7 q8 q9 q10 q11 q12 q13 q14 q15 q16 q17 q18 q19 q20 q21 q22 q23 : Pos) (j1 j2 j3 j4 j5 j6 : Nat), e =
  .BinOp (.Subscript (.Subscript (.Subscript (.Name "other" q1) (.Subscript (.Name "pair" q2) (.Constant (.int 1) j1 q3) q4) q5) (.Subscript (.Name "levels" q6) (.Constant (.int 1) j2 q7) q8) q9) (.Constant (.int 0) j3 q10) q11) .Sub
    (.Subscript (.Subscript (.Subscript (.Name "first" q12) (.Subscript (.Name "pair" q13) (.Constant (.int 0) j4 q14) q15) q16) (.Subscript (.Name "levels" q17) (.Constant (.int 0) j5 q18) q19) q20) (.Constant (.int 0) j6 q21) q22) q23
def wGap : WE := wB opSub
  (oE (wB opIx (oE (wB opIx (oE (wB opIx (oV 1) (oE (wB opIx (oV 4) (oE (wC (.int 1))))))) (oE (wB opIx (oV 5) (oE (wC (.int 1))))))) (oE (wC (.int 0)))))
  (oE (wB opIx (oE (wB opIx (oE (wB opIx (oV 0) (oE (wB opIx (oV 4) (oE (wC (.int 0))))))) (oE (wB opIx (oV 5) (oE (wC (.int 0))))))) (oE (wC (.int 0)))))
/-- the def: two loops, a triple at each turn -/
def IsGap (b : List Stmt) : Prop := ∃ (e1 : Expr) (pp pv po pl pm pf pp' pl' yp ep tp : Pos) (tk : Nat), IsGapE e1 ∧ b = [.For (.Name "pair" pp) (.Name "found" pv) [innerSt e1 "pair" "levels" "moves" pl pm pf pp' pl' yp ep tp tk] [] po]
end VC

set_option Elab.async false
set_option linter.all false
set_option maxRecDepth 100000
set_option maxHeartbeats 4000000
/-! GI: the generator ready to be walked; a for over it. -/
namespace VC
open PySem PySem.Spec PyProof.Rows L2 GenW

structure GapDef (st : Stmt) : Prop where
  text : IsGap (defBody st)
  sc : GScope gapN ["first", "other", "found", "moves"] (defScope st)
  loc : ∀ x ∈ gapN, (defScope st).names.lookup x = some .local
  only : ∀ y ∈ (defScope st).names, y.2 ≠ .cell ∧ y.2 ≠ .free
  nc : ∀ n, cellsFrom n (defScope st).names [] = []
/-- the facts of the def that makes it -/
def GapV (K : PySem.W.Frag) (mg : Str → Option Value) : Prop := ∃ (st : Stmt) (qual : Str) (f : Addr) (fd : FuncData), GapDef st ∧ FunD K "gaps_of" qual (defArgs st) (defBody st) (defScope st) [] [] f fd ∧
  mg "gaps_of" = some (.ref f) ∧ Binds K fd ["first", "other", "found", "moves"] []
/-- the triples, by the arguments -/
@[irreducible] def gapsD (ds : List D) (Kk : List D → Prop) : Prop := match ds with
  | [d0, d1, .dct ks us, .lst ms] => D.nrs [d0, d1, .dct ks us, .lst ms] = true ∧ ∃ gp : D → D → Int,
      (∀ k ∈ ks, ∀ m ∈ ms, wGap [some (.val d0), some (.val d1), some (.val (.dct ks us)), some (.val (.lst ms)), some (.val k), some (.val m)] [] (fun t _ _ => t = .val (.int (gp k m)))) ∧
      Kk (ks.flatMap fun k => ms.map fun m => .tup [.int (gp k m), k, m])
  | _ => False
section
variable {X : Cx} {B : Hp} {g0 g : Gh} {pins : List (Addr × Obj)} {σ : L2.St} {H : Hp} {s s3 : Shared} {env : VEnv} {S : Sto}
/-- the triples as they come -/
def Tri (X : Cx) (g : Gh) (H : Hp) (items : List D) (outs : List (List V)) : Prop := outs.length = items.length ∧ ∀ (n : Nat) (vs : List V), outs[n]? = some vs → ∃ d1 d2 d3, items[n]? = some (.tup [d1, d2, d3]) ∧ RepAll X.mg X.wk g H [d1, d2, d3] vs
end
end VC

set_option Elab.async false
set_option linter.all false
set_option maxRecDepth 100000
set_option maxHeartbeats 4000000
/-! GJ: a for over gaps_of(..), by a body that wakes no generator. -/
namespace VC
open PySem PySem.Spec PyProof.Rows L2 GenW

section
variable (X : Cx) (B : Hp) (g0 : Gh)
/-- such a body -/
structure BodyG (body : List Stmt) (W : WS) : Prop where
  mono : MoS W
  run : ∀ (pins : List (Addr × Obj)) (s : Shared) (σ : L2.St) (H : Hp) (g : Gh) (env : VEnv) (S : Sto) (De : WEnds) (D' : Ends), Inv X pins σ H s → Rp X.mg X.wk B g0 g H σ env S → W De env S → (∀ v H', KQ X B g0 g H De.rt v H' → D'.rt v H') →
    wpAny (model X.prog X.w) X.A (execs body X.env) (fun f s' => match f with
      | .next => ∃ σ' env' S', Inv X pins σ' H s' ∧ Cl X s s' ∧ Rp X.mg X.wk B g0 g H σ' env' S' ∧ De.nx env' S'
      | .ret u => ∃ v σ' H', Inv X pins σ' H' s' ∧ RelV v u ∧ D'.rt v H'
      | _ => False) X.xe s
end
def iGaps (Wa : WA) : WA := fun env S Q => Wa env S fun ds env' S' => gapsD ds fun items => Q items env' S'
abbrev g3 (i1 i2 i3 : Nat) : WG := gT (gCs (gN i1) (gCs (gN i2) (gCs (gN i3) gNl)))
section
variable {X : Cx} {B : Hp} {g0 : Gh} {k : Nat} {e : Expr} {es : List Expr} {Wa : WA} {W : WS} {body : List Stmt} {x y z : Str} {px py pz tp p pos pos' : Pos} {tk : Nat} {i1 i2 i3 : Nat}
end
end VC

set_option Elab.async false
set_option linter.all false
set_option maxRecDepth 100000
set_option maxHeartbeats 4000000
/-! GK: bodies that wake no generator; abs. -/
namespace VC
open PySem PySem.Spec PyProof.Rows L2 GenW

/-! ### abs -/
def opAbs : ON
  | [.int i], K => K (.val (.int (if i < 0 then -i else i)))
  | _, _ => False
section
variable {X : Cx}
end
/-! ### tests -/
section
variable (X : Cx) (B : Hp) (g0 : Gh)
structure VKt (e : Expr) (W : WT) : Prop where
  mono : Mo W
  run : ∀ (pins : List (Addr × Obj)) (s : Shared) (σ : L2.St) (H : Hp) (g : Gh) (env : VEnv) (S : Sto) (Q : Bool → VEnv → Sto → Prop), Inv X pins σ H s → Rp X.mg X.wk B g0 g H σ env S → W env S Q →
    wpAny (model X.prog X.w) X.A (isTrue e X.env (eval e X.env)) (fun b s' => (∃ t, s' = { s with toks := t }) ∧ Q b env S) X.xe s
end
section
variable {X : Cx} {B : Hp} {g0 : Gh} {pins : List (Addr × Obj)} {σ : L2.St} {H : Hp} {s : Shared} {x y : Str} {p py pos pos' : Pos}
def intAt (env : VEnv) (i : Nat) (K : Int → Prop) : Prop := match slot env i with
  | some (.val (.int a)) => K a
  | _ => False
/-- a name's int is another name's -/
def wEqN (i j : Nat) : WT := fun env S Q => intAt env i fun a => intAt env j fun b => Q (decide (a = b)) env S
/-- a name's int is below a written one -/
def wLtC (i : Nat) (c : Int) : WT := fun env S Q => intAt env i fun a => Q (decide (a < c)) env S
/-! ### bodies -/
def wIfR (Wt : WT) (Wr : WS) : WS := fun D env S => Wt env S fun c env' S' => Ite c (Wr { nx := fun _ _ => False, rt := D.rt } env' S') (D.nx env' S')
/-- most = max(most, abs(gap)) -/
def wMaxAbs (i j : Nat) : WS := fun D env S => intAt env i fun m => intAt env j fun a => D.nx (env.set i (some (.val (.int (if (if a < 0 then -a else a) > m then (if a < 0 then -a else a) else m))))) S
end
end VC

set_option Elab.async false
set_option linter.all false
set_option maxRecDepth 100000
set_option maxHeartbeats 4000000
/-! GL: [gap for gap, pair, levels in gaps_of(..)]. -/
namespace VC
open PySem PySem.Spec PyProof.Rows L2 GenW

def fstD : D → D
  | .tup (x :: _) => x
  | _ => .non
def wLcG (Wa : WA) : WE := fun env S Q => iGaps Wa env S fun items env' S' => items.length ≤ 1000000 ∧ Q (.own (.lst (items.map fstD))) env' S'
section
variable {X : Cx} {σ : L2.St} {H : Hp} {s s1 : Shared} {N : List Str} {qual : Str} {scope : Scope} {f : Addr} {cdv : Value} {L D : Addr} {xs : List V}
end
section
variable {X : Cx} {B : Hp} {g0 : Gh} {k : Nat} {e : Expr} {es : List Expr} {Wa : WA} {x y z : Str} {p1 px py pz tp p pos lpos : Pos} {tk : Nat} {i1 i2 i3 : Nat} {scope : Scope} {own : List (Str × Nat)}
end
end VC

set_option Elab.async false
set_option linter.all false
set_option maxRecDepth 100000
set_option maxHeartbeats 4000000
/-! GM: list(range(..)), max of a list. -/
namespace VC
open PySem PySem.Spec PyProof.Rows L2

theorem repAll_map {α : Type} {mg : Str → Option Value} {w : WK} {g : Gh} {H : Hp} (f : α → D) (h : α → V) : ∀ (l : List α), (∀ i ∈ l, Rep mg w g H (f i) (h i)) → RepAll mg w g H (l.map f) (l.map h)
  | [], _ => .nil
  | a :: l, k => .cons (k a (List.mem_cons_self)) (repAll_map f h l fun i hi => k i (List.mem_cons_of_mem _ hi))
def sm (i : Int) : Prop := -1000000 ≤ i ∧ i ≤ 1000000
def wLRg1 (W : WE) : WE := fun env S Q => W env S fun t env' S' => match t with
  | .val (.int n) => sm n ∧ Q (.own (.lst (rngD 0 n.toNat))) env' S'
  | _ => False
def wLRg2 (Wa Wb : WE) : WE := fun env S Q => Wa env S fun t env1 S1 => Wb env1 S1 fun u env2 S2 => match t, u with
  | .val (.int a), .val (.int b) => (sm a ∧ sm b) ∧ Q (.own (.lst (rngD a (b - a).toNat))) env2 S2
  | _, _ => False
section
variable {X : Cx} {B : Hp} {g0 : Gh} {a b : Expr} {p p2 pos pos2 : Pos}
end
/-! ### max of a list -/
def intsQ : List D → Option (List Int)
  | [] => some []
  | .int i :: r => (intsQ r).map (i :: ·)
  | _ :: _ => none
def maxI : List Int → Int
  | [] => 0
  | n :: ns => ns.foldl max n
theorem foldl_max_le : ∀ (ns : List Int) (n : Int), n ≤ ns.foldl max n ∧ ∀ y ∈ ns, y ≤ ns.foldl max n
  | [], n => ⟨Int.le_refl _, fun _ h => by cases h⟩
  | a :: ns, n => by
    obtain ⟨h1, h2⟩ := foldl_max_le ns (max n a)
    refine ⟨Int.le_trans (Int.le_max_left _ _) h1, fun y hy => ?_⟩
    rcases List.mem_cons.mp hy with e | hy
    · subst e; exact Int.le_trans (Int.le_max_right _ _) h1
    · exact h2 y hy
theorem foldl_max_mem : ∀ (ns : List Int) (n : Int), ns.foldl max n = n ∨ ns.foldl max n ∈ ns
  | [], n => .inl rfl
  | a :: ns, n => by
    rcases foldl_max_mem ns (max n a) with h | h
    · rcases Int.le_total n a with z | z
      · refine .inr ?_
        show ns.foldl max (max n a) ∈ _
        rw [h, Int.max_eq_right z]; exact List.mem_cons_self
      · refine .inl ?_
        show ns.foldl max (max n a) = _
        rw [h, Int.max_eq_left z]
    · exact .inr (List.mem_cons_of_mem _ h)
theorem intsQ_map : ∀ {ds : List D} {ns : List Int}, intsQ ds = some ns → ds = ns.map .int
  | [], ns, h => by simp [intsQ] at h; subst h; rfl
  | d :: ds, ns, h => by
    cases d with
    | int i =>
      simp only [intsQ, Option.map_eq_some_iff] at h
      obtain ⟨r, h1, rfl⟩ := h
      rw [intsQ_map h1]; rfl
    | _ => simp [intsQ] at h
theorem intsQ_of : ∀ (ns : List Int), intsQ (ns.map .int) = some ns
  | [] => rfl
  | n :: ns => by
    show (intsQ (ns.map .int)).map (n :: ·) = _
    rw [intsQ_of ns]; rfl
theorem rep_intsG {mg : Str → Option Value} {w : WK} {g : Gh} {H : Hp} : ∀ {ns : List Int} {vs : List V}, RepAll mg w g H (ns.map .int) vs → vs = ns.map .int
  | [], _, .nil => rfl
  | n :: ns, _, .cons r t => by
    cases r
    rw [rep_intsG t]; rfl
def opMaxL : ON
  | [.lst ds], K => match intsQ ds with
    | some (n :: ns) => K (.val (.int (maxI (n :: ns))))
    | _ => False
  | _, _ => False
def minI : List Int → Int
  | [] => 0
  | n :: ns => ns.foldl min n
theorem foldl_min_le : ∀ (ns : List Int) (n : Int), ns.foldl min n ≤ n ∧ ∀ y ∈ ns, ns.foldl min n ≤ y
  | [], n => ⟨Int.le_refl _, fun _ h => by cases h⟩
  | a :: ns, n => by
    obtain ⟨h1, h2⟩ := foldl_min_le ns (min n a)
    refine ⟨Int.le_trans h1 (Int.min_le_left _ _), fun y hy => ?_⟩
    rcases List.mem_cons.mp hy with e | hy
    · subst e; exact Int.le_trans h1 (Int.min_le_right _ _)
    · exact h2 y hy
theorem foldl_min_mem : ∀ (ns : List Int) (n : Int), ns.foldl min n = n ∨ ns.foldl min n ∈ ns
  | [], n => .inl rfl
  | a :: ns, n => by
    rcases foldl_min_mem ns (min n a) with h | h
    · rcases Int.le_total n a with z | z
      · refine .inl ?_
        show ns.foldl min (min n a) = _
        rw [h, Int.min_eq_left z]
      · refine .inr ?_
        show ns.foldl min (min n a) ∈ _
        rw [h, Int.min_eq_right z]; exact List.mem_cons_self
    · exact .inr (List.mem_cons_of_mem _ h)
end VC

set_option Elab.async false
set_option linter.all false
set_option maxRecDepth 100000
set_option maxHeartbeats 4000000
/-! W_all: what each def does, printed by gen.py. -/
namespace VC
open PySem PySem.Spec PyProof.Rows L2
def wf_is_from : WS :=
  (wRet (vAnd (wIsi isInt (oV 0)) (vAnd (vNot (wIsi isBl (oV 0))) (wCh opLe opLe (oV 1) (oV 0) (oV 2)))))

def wf_is_stage_of (sp_is_from : FSpec) : WS :=
  (wSeq (wIfS (wOr (wNot (wTst (wIsi isTup (oV 1)))) (wOr (wTst (wB opLt (oE (wCB opLenX (wUC (oV 1) wA0))) (oE (wC (.int 2))))) (wNot (wTst (wIsi isStr (oE (wB opIxX (oV 1) (oE (wC (.int 0))))))))))
  (wRet (wC (.bl false)))
  wNil)
  (wSeq (wIfS (wTst (wB (opEq false) (oE (wB opIxX (oV 1) (oE (wC (.int 0))))) (oE (wC (.str "hold")))))
  (wRet (vAnd (wB (opEq false) (oE (wCB opLenX (wUC (oV 1) wA0))) (oE (wC (.int 2)))) (wCall 3 sp_is_from (wAC (wB opIxX (oV 1) (oE (wC (.int 1)))) (wAC (wC (.int 1)) (wAC (wC (.int 2)) wA0))))))
  wNil)
  (wSeq (wIfS (wTst (wB (opEq true) (oE (wCB opLenX (wUC (oV 1) wA0))) (oE (wC (.int 3)))))
  (wRet (wC (.bl false)))
  wNil)
  (wSeq (wIfS (wTst (wB (opEq false) (oE (wB opIxX (oV 1) (oE (wC (.int 0))))) (oE (wC (.str "slew")))))
  (wRet (vAnd (wCall 3 sp_is_from (wAC (wB opIxX (oV 1) (oE (wC (.int 1)))) (wAC (wC (.int 0)) (wAC (wC (.int 5)) wA0)))) (wCall 3 sp_is_from (wAC (wB opIxX (oV 1) (oE (wC (.int 2)))) (wAC (wC (.int 0)) (wAC (wC (.int 5)) wA0))))))
  wNil)
  (wSeq (wIfS (wTst (wB (opInX false) (oE (wB opIxX (oV 1) (oE (wC (.int 0))))) (oE (wTup (wAC (wC (.str "clip")) (wAC (wC (.str "gate")) wA0))))))
  (wRet (vAnd (wCall 3 sp_is_from (wAC (wB opIxX (oV 1) (oE (wC (.int 1)))) (wAC (wC (.int 0)) (wAC (wV 0) wA0)))) (wCall 3 sp_is_from (wAC (wB opIxX (oV 1) (oE (wC (.int 2)))) (wAC (wB opIxX (oV 1) (oE (wC (.int 1)))) (wAC (wV 0) wA0))))))
  wNil)
  (wRet (wC (.bl false))))))))

def wf_keeping : WS :=
  (wRet (wCB opLenX (wUC (oE (wLc [1] (iW (wV 0)) (gN 1) (wTst (wB (opEq true) (oE (wB opIxX (oV 1) (oE (wC (.int 0))))) (oE (wC (.str "clip"))))) (wV 1))) wA0)))

def wf_is_chain_of (sp_is_stage_of : FSpec) (sp_keeping : FSpec) (sp_is_from : FSpec) : WS :=
  (wSeq (wIfS (wOr (wNot (wTst (wIsi isTup (oV 0)))) (wOr (wTst (wB (opEq true) (oE (wCB opLenX (wUC (oV 0) wA0))) (oE (wC (.int 3))))) (wNot (wTst (wCall 3 sp_is_from (wAC (wB opIxX (oV 0) (oE (wC (.int 0)))) (wAC (wC (.int 1)) (wAC (wC (.int 5)) wA0))))))))
  (wRet (wC (.bl false)))
  wNil)
  (wSeq (wAsg (wV 0) (gT (gCs (gN 1) (gCs (gN 2) (gCs (gN 3) gNl)))))
  (wSeq (wIfS (wOr (wNot (wTst (wCall 3 sp_is_from (wAC (wV 2) (wAC (wC (.int 0)) (wAC (wV 1) wA0)))))) (wOr (wNot (wTst (wIsi isTup (oV 3)))) (wTst (wB opGt (oE (wCB opLenX (wUC (oV 3) wA0))) (oE (wC (.int 3)))))))
  (wRet (wC (.bl false)))
  wNil)
  (wRet (vAnd (wCB opAll (wUC (oE (wLc [4] (iW (wV 3)) (gN 4) wYes (wCall 2 sp_is_stage_of (wAC (wV 1) (wAC (wV 4) wA0))))) wA0)) (wB opLe (oE (wCall 1 sp_keeping (wAC (wV 3) wA0))) (oE (wC (.int 2)))))))))

def wf_is_chain (sp_is_chain_of : FSpec) : WS :=
  (wRet (wCall 1 sp_is_chain_of (wAC (wV 0) wA0)))

def wf_law_deck : WS :=
  (wSeq (wIfS (wTst (wB opGe (oV 0) (oE (wB opPow (oE (wC (.int 10))) (oE (wC (.int 18)))))))
  (wRet (wLst (wAC (wB opSub (oV 0) (oE (wB opPow (oE (wC (.int 10))) (oE (wC (.int 18)))))) (wAC (wB opMod (oE (wCB opInt1 (wUC (oV 0) wA0))) (oE (wC (.int 2147483579)))) (wAC (wV 1) wA0)))))
  wNil)
  (wRet (wLst (wAC (wC (.int 0)) (wAC (wB opMod (oE (wCB opInt1 (wUC (oV 0) wA0))) (oE (wC (.int 2147483579)))) (wAC (wV 1) wA0))))))

def wf_law_pick : WS :=
  (wSeq (wIfS (wTst (wB opGt (oE (wB opIxX (oV 0) (oE (wC (.int 0))))) (oE (wC (.int 1)))))
  (wSeq (wSet 2 (wB opMod (oE (wCB opInt1 (wUC (oE (wB opIxX (oV 0) (oE (wC (.int 0))))) wA0))) (oV 1)))
  (wSeq (wSetX 0 (wB opDiv (oE (wB opIxX (oV 0) (oE (wC (.int 0))))) (oV 1)) (oE (wC (.int 0))))
  (wRet (wMv 2))))
  wNil)
  (wSeq (wSetX 0 (wB opAdd (oE (wB opIxX (oV 0) (oE (wC (.int 2))))) (oE (wC (.int 1)))) (oE (wC (.int 2))))
  (wSeq (wSet 3 (wB opMod (oE (wCB opInt1 (wUC (oE (wB opPow (oE (wCB opInt1 (wUC (oE (wB opAdd (oE (wB opIxX (oV 0) (oE (wC (.int 1))))) (oE (wB opMul (oE (wC (.int 15485867))) (oE (wB opIxX (oV 0) (oE (wC (.int 2))))))))) wA0))) (oE (wC (.int 5))))) wA0))) (oE (wC (.int 2147483647)))))
  (wSeq (wSet 2 (wB opDiv (oE (wB opMod (oE (wCB opInt1 (wUC (oE (wB opPow (oE (wCB opInt1 (wUC (oE (wB opAdd (oV 3) (oE (wB opMul (oE (wC (.int 7919))) (oE (wB opIxX (oV 0) (oE (wC (.int 2))))))))) wA0))) (oE (wC (.int 3))))) wA0))) (oE (wC (.int 2147483629))))) (oE (wC (.int 32)))))
  (wRet (wB opMod (oE (wCB opInt1 (wUC (oV 2) wA0))) (oV 1)))))))

def wf_law_one (sp__law_pick : FSpec) : WS :=
  (wRet (wB opIxX (oV 1) (oE (wCall 2 sp__law_pick (wAC (wV 0) (wAC (wCB opLenX (wUC (oV 1) wA0)) wA0))))))

def wf_law_whole : WS :=
  (wRet (vAnd (wIsi isInt (oV 0)) (vNot (wIsi isBl (oV 0)))))

def wf_law_stage (sp__law_pick : FSpec) : WS :=
  (wSeq (wSet 3 (wCall 2 sp__law_pick (wAC (wV 0) (wAC (wB opAdd (oV 1) (oE (wC (.int 1)))) wA0))))
  (wSeq (wSet 4 (wB opAdd (oV 3) (oE (wCall 2 sp__law_pick (wAC (wV 0) (wAC (wB opSub (oE (wB opAdd (oV 1) (oE (wC (.int 1))))) (oV 3)) wA0))))))
  (wSeq (wIfS (wOr (wTst (wV 2)) (wTst (wB (opEq false) (oE (wCall 2 sp__law_pick (wAC (wV 0) (wAC (wC (.int 4)) wA0)))) (oE (wC (.int 0))))))
  (wRet (wTup (wAC (wC (.str "clip")) (wAC (wV 3) (wAC (wV 4) wA0)))))
  wNil)
  (wSeq (wSet 5 (wCall 2 sp__law_pick (wAC (wV 0) (wAC (wC (.int 5)) wA0))))
  (wSeq (wIfS (wTst (wB (opEq false) (oV 5) (oE (wC (.int 0)))))
  (wRet (wTup (wAC (wC (.str "gate")) (wAC (wV 3) (wAC (wV 4) wA0)))))
  wNil)
  (wSeq (wIfS (wTst (wB (opEq false) (oV 5) (oE (wC (.int 1)))))
  (wRet (wTup (wAC (wC (.str "hold")) (wAC (wB opAdd (oE (wC (.int 1))) (oE (wCall 2 sp__law_pick (wAC (wV 0) (wAC (wC (.int 2)) wA0))))) wA0))))
  wNil)
  (wRet (wTup (wAC (wC (.str "slew")) (wAC (wCall 2 sp__law_pick (wAC (wV 0) (wAC (wCB opMin2 (wUC (oE (wC (.int 6))) (wUC (oE (wB opAdd (oV 1) (oE (wC (.int 2))))) wA0))) wA0))) (wAC (wCall 2 sp__law_pick (wAC (wV 0) (wAC (wCB opMin2 (wUC (oE (wC (.int 6))) (wUC (oE (wB opAdd (oV 1) (oE (wC (.int 2))))) wA0))) wA0))) wA0)))))))))))

def wf_law_chain (sp__law_pick : FSpec) (sp__law_stage : FSpec) : WS :=
  (wSeq (wPr3 3 4 5 (wLC (wB opAdd (oE (wC (.int 1))) (oE (wCall 2 sp__law_pick (wAC (wV 0) (wAC (wV 1) wA0))))) (wLC (wTup wA0) (wLC (wC (.int 0)) wL0))))
  (wSeq (wFor (iR1 (wAC (wCall 2 sp__law_pick (wAC (wV 0) (wAC (wB opAdd (oV 2) (oE (wC (.int 1)))) wA0))) wA0)) (gN 6)
  (wSeq (wSet 7 (wCall 3 sp__law_stage (wAC (wV 0) (wAC (wV 3) (wAC (wB (opEq false) (oV 5) (oE (wC (.int 2)))) wA0)))))
  (wSeq (wSet 5 (wB opAdd (oV 5) (oE (wIf (wTst (wB (opEq false) (oE (wB opIxX (oV 7) (oE (wC (.int 0))))) (oE (wC (.str "clip"))))) (wC (.int 0)) (wC (.int 1))))))
  (wSet 4 (wB opAdd (oV 4) (oE (wTup (wAC (wV 7) wA0))))))))
  (wRet (wTup (wAC (wV 3) (wAC (wCall 2 sp__law_pick (wAC (wV 0) (wAC (wB opAdd (oV 3) (oE (wC (.int 1)))) wA0))) (wAC (wV 4) wA0)))))))

def wf_law_levels (sp__law_pick : FSpec) : WS :=
  (wRet (wCB opTuple (wUC (oE (wLc [3] (iR1 (wAC (wCall 2 sp__law_pick (wAC (wV 0) (wAC (wB opAdd (oV 2) (oE (wC (.int 1)))) wA0))) wA0)) (gN 3) wYes (wCall 2 sp__law_pick (wAC (wV 0) (wAC (wB opAdd (oV 1) (oE (wC (.int 1)))) wA0))))) wA0)))

def wf_law_is_stage (sp__law_whole : FSpec) : WS :=
  (wSeq (wIfS (wOr (wNot (wTst (wIsi isTup (oV 1)))) (wOr (wTst (wB (opInX true) (oE (wCB opLenX (wUC (oV 1) wA0))) (oE (wTup (wAC (wC (.int 2)) (wAC (wC (.int 3)) wA0)))))) (wNot (wTst (wIsi isStr (oE (wB opIxX (oV 1) (oE (wC (.int 0))))))))))
  (wRet (wC (.bl false)))
  wNil)
  (wSeq (wIfS (wTst (wB (opEq true) (oE (wLc [2] (iW (wSl (oV 1) (pS (wC (.int 1))) pN)) (gN 2) (wNot (wTst (wCall 1 sp__law_whole (wAC (wV 2) wA0)))) (wC (.int 1)))) (oE (wLst wA0))))
  (wRet (wC (.bl false)))
  wNil)
  (wSeq (wIfS (wTst (wB (opEq false) (oE (wB opIxX (oV 1) (oE (wC (.int 0))))) (oE (wC (.str "hold")))))
  (wRet (vAnd (wB (opEq false) (oE (wCB opLenX (wUC (oV 1) wA0))) (oE (wC (.int 2)))) (wB (opInX false) (oE (wB opIxX (oV 1) (oE (wC (.int 1))))) (oE (wTup (wAC (wC (.int 1)) (wAC (wC (.int 2)) wA0)))))))
  wNil)
  (wSeq (wIfS (wTst (wB (opEq false) (oE (wCB opLenX (wUC (oV 1) wA0))) (oE (wC (.int 2)))))
  (wRet (wC (.bl false)))
  wNil)
  (wSeq (wIfS (wTst (wB (opEq false) (oE (wB opIxX (oV 1) (oE (wC (.int 0))))) (oE (wC (.str "slew")))))
  (wRet (vAnd (wCh opLe opLe (oE (wC (.int 0))) (oE (wB opIxX (oV 1) (oE (wC (.int 1))))) (oE (wC (.int 5)))) (wCh opLe opLe (oE (wC (.int 0))) (oE (wB opIxX (oV 1) (oE (wC (.int 2))))) (oE (wC (.int 5))))))
  wNil)
  (wRet (vAnd (wB (opInX false) (oE (wB opIxX (oV 1) (oE (wC (.int 0))))) (oE (wTup (wAC (wC (.str "clip")) (wAC (wC (.str "gate")) wA0))))) (wCh3 opLe opLe opLe (oE (wC (.int 0))) (oE (wB opIxX (oV 1) (oE (wC (.int 1))))) (oE (wB opIxX (oV 1) (oE (wC (.int 2))))) (oV 0)))))))))

def wf_law_is (sp__law_is_stage : FSpec) (sp__law_whole : FSpec) : WS :=
  (wSeq (wIfS (wOr (wNot (wTst (wIsi isTup (oV 0)))) (wTst (wB (opEq true) (oE (wCB opLenX (wUC (oV 0) wA0))) (oE (wC (.int 3))))))
  (wRet (wC (.bl false)))
  wNil)
  (wSeq (wAsg (wV 0) (gT (gCs (gN 1) (gCs (gN 2) (gCs (gN 3) gNl)))))
  (wSeq (wIfS (wOr (wNot (wTst (wCall 1 sp__law_whole (wAC (wV 1) wA0)))) (wOr (wNot (wTst (wCall 1 sp__law_whole (wAC (wV 2) wA0)))) (wOr (wNot (wTst (wCh opLe opLe (oE (wC (.int 1))) (oV 1) (oE (wC (.int 5)))))) (wNot (wTst (wCh opLe opLe (oE (wC (.int 0))) (oV 2) (oV 1)))))))
  (wRet (wC (.bl false)))
  wNil)
  (wSeq (wIfS (wOr (wNot (wTst (wIsi isTup (oV 3)))) (wTst (wB opGt (oE (wCB opLenX (wUC (oV 3) wA0))) (oE (wC (.int 3))))))
  (wRet (wC (.bl false)))
  wNil)
  (wSeq (wIfS (wTst (wB (opEq true) (oE (wLc [4] (iW (wV 3)) (gN 4) (wNot (wTst (wCall 2 sp__law_is_stage (wAC (wV 1) (wAC (wV 4) wA0))))) (wC (.int 1)))) (oE (wLst wA0))))
  (wRet (wC (.bl false)))
  wNil)
  (wRet (wB opLe (oE (wCB opLenX (wUC (oE (wLc [4] (iW (wV 3)) (gN 4) (wTst (wB (opEq true) (oE (wB opIxX (oV 4) (oE (wC (.int 0))))) (oE (wC (.str "clip"))))) (wC (.int 1)))) wA0))) (oE (wC (.int 2))))))))))

def wf_need_chain (sp_is_chain_of : FSpec) : WS :=
  (wIfS (wNot (wTst (wCall 1 sp_is_chain_of (wAC (wV 0) wA0))))
  wNev
  wNil)

def wf_are_levels (sp_is_from : FSpec) : WS :=
  (wRet (vAnd (wIsi isTup (oV 1)) (vAnd (wB opLe (oE (wCB opLenX (wUC (oV 1) wA0))) (oV 2)) (wCB opAll (wUC (oE (wLc [3] (iW (wV 1)) (gN 3) wYes (wCall 3 sp_is_from (wAC (wV 3) (wAC (wC (.int 0)) (wAC (wV 0) wA0)))))) wA0)))))

def wf_need_signal (sp_are_levels_2 : FSpec) : WS :=
  (wIfS (wNot (wTst (wCall 2 sp_are_levels_2 (wAC (wB opIxX (oV 0) (oE (wC (.int 0)))) (wAC (wV 1) wA0)))))
  wNev
  wNil)

def wf_between : WS :=
  (wRet (wCB opMin2 (wUC (oE (wCB opMax2 (wUC (oV 0) (wUC (oV 1) wA0)))) (wUC (oV 2) wA0))))

def wf_first_of (sp_between : FSpec) : WS :=
  (wSeq (wIfS (wTst (wB (opEq false) (oE (wB opIxX (oV 0) (oE (wC (.int 0))))) (oE (wC (.str "slew")))))
  (wRet (wTup (wAC (wV 1) (wAC (wV 1) wA0))))
  wNil)
  (wSeq (wIfS (wTst (wB (opEq false) (oE (wB opIxX (oV 0) (oE (wC (.int 0))))) (oE (wC (.str "clip")))))
  (wRet (wTup (wAC (wCall 3 sp_between (wAC (wV 1) (wAC (wB opIxX (oV 0) (oE (wC (.int 1)))) (wAC (wB opIxX (oV 0) (oE (wC (.int 2)))) wA0)))) (wAC (wC (.int 0)) wA0))))
  wNil)
  (wSeq (wIfS (wTst (wB (opEq false) (oE (wB opIxX (oV 0) (oE (wC (.int 0))))) (oE (wC (.str "gate")))))
  (wSeq (wSet 2 (wCB opInt1 (wUC (oE (wB opGe (oV 1) (oE (wB opIxX (oV 0) (oE (wC (.int 2))))))) wA0)))
  (wRet (wTup (wAC (wB opMul (oV 1) (oV 2)) (wAC (wV 2) wA0)))))
  wNil)
  (wRet (wTup (wAC (wV 1) (wAC (wTup (wAC (wV 1) (wAC (wC (.int 0)) wA0))) wA0)))))))

def wf_first_state (sp_first_of : FSpec) : WS :=
  (wSeq (wPr2 1 2 (wLC (wB opIxX (oV 0) (oE (wC (.int 1)))) (wLC (wTup wA0) wL0)))
  (wSeq (wFor (iW (wB opIxX (oV 0) (oE (wC (.int 2))))) (gN 3)
  (wSeq (wAsg (wCall 2 sp_first_of (wAC (wV 3) (wAC (wV 1) wA0))) (gT (gCs (gN 1) (gCs (gN 4) gNl))))
  (wSet 2 (wB opAdd (oV 2) (oE (wTup (wAC (wV 4) wA0)))))))
  (wRet (wMv 2))))

def wf_moved (sp_between : FSpec) : WS :=
  (wSeq (wIfS (wTst (wB (opEq false) (oE (wB opIxX (oV 0) (oE (wC (.int 0))))) (oE (wC (.str "slew")))))
  (wSeq (wSet 3 (wCall 3 sp_between (wAC (wV 2) (wAC (wB opSub (oV 1) (oE (wB opIxX (oV 0) (oE (wC (.int 2)))))) (wAC (wB opAdd (oV 1) (oE (wB opIxX (oV 0) (oE (wC (.int 1)))))) wA0)))))
  (wRet (wTup (wAC (wV 3) (wAC (wV 3) wA0)))))
  wNil)
  (wSeq (wIfS (wTst (wB (opEq false) (oE (wB opIxX (oV 0) (oE (wC (.int 0))))) (oE (wC (.str "clip")))))
  (wRet (wTup (wAC (wCall 3 sp_between (wAC (wV 2) (wAC (wB opIxX (oV 0) (oE (wC (.int 1)))) (wAC (wB opIxX (oV 0) (oE (wC (.int 2)))) wA0)))) (wAC (wC (.int 0)) wA0))))
  wNil)
  (wSeq (wIfS (wTst (wB (opEq false) (oE (wB opIxX (oV 0) (oE (wC (.int 0))))) (oE (wC (.str "gate")))))
  (wSeq (wSet 4 (wCB opInt1 (wUC (oE (wB opGe (oV 2) (oE (wB opIxX (oV 0) (oE (wIf (wTst (wB (opEq false) (oV 1) (oE (wC (.int 1))))) (wC (.int 1)) (wC (.int 2)))))))) wA0)))
  (wRet (wTup (wAC (wB opMul (oV 2) (oV 4)) (wAC (wV 4) wA0)))))
  wNil)
  (wSeq (wAsg (wV 1) (gT (gCs (gN 3) (gCs (gN 5) gNl))))
  (wSeq (wIfS (wTst (wB opGt (oV 5) (oE (wC (.int 0)))))
  (wRet (wTup (wAC (wV 3) (wAC (wTup (wAC (wV 3) (wAC (wB opSub (oV 5) (oE (wC (.int 1)))) wA0))) wA0))))
  wNil)
  (wRet (wTup (wAC (wV 2) (wAC (wTup (wAC (wV 2) (wAC (wIf (wTst (wB (opEq true) (oV 2) (oV 3))) (wB opIxX (oV 0) (oE (wC (.int 1)))) (wC (.int 0))) wA0))) wA0)))))))))

def wf_step (sp_moved : FSpec) : WS :=
  (wSeq (wSet 3 (wTup wA0))
  (wSeq (wFor (iZp (wAC (wV 0) (wAC (wV 1) wA0))) (gT (gCs (gN 4) (gCs (gN 5) gNl)))
  (wSeq (wAsg (wCall 3 sp_moved (wAC (wV 4) (wAC (wV 5) (wAC (wV 2) wA0)))) (gT (gCs (gN 2) (gCs (gN 6) gNl))))
  (wSet 3 (wB opAdd (oV 3) (oE (wTup (wAC (wV 6) wA0)))))))
  (wRet (wTup (wAC (wV 2) (wAC (wV 3) wA0))))))

def wf_run (sp_step : FSpec) : WS :=
  (wSeq (wSet 3 (wTup wA0))
  (wSeq (wFor (iW (wV 2)) (gN 4)
  (wSeq (wAsg (wCall 3 sp_step (wAC (wV 0) (wAC (wV 1) (wAC (wV 4) wA0)))) (gT (gCs (gN 5) (gCs (gN 1) gNl))))
  (wSet 3 (wB opAdd (oV 3) (oE (wTup (wAC (wV 5) wA0)))))))
  (wRet (wTup (wAC (wV 3) (wAC (wV 1) wA0))))))

def wf_output (sp_run : FSpec) (sp_first_state : FSpec) (sp_need_signal : FSpec) (sp_need_chain : FSpec) : WS :=
  (wSeq (wDrop (wCall 1 sp_need_chain (wAC (wV 0) wA0)))
  (wSeq (wDrop (wCall 2 sp_need_signal (wAC (wV 0) (wAC (wV 1) wA0))))
  (wRet (wB opIxX (oE (wCall 3 sp_run (wAC (wB opIxX (oV 0) (oE (wC (.int 2)))) (wAC (wCall 1 sp_first_state (wAC (wV 0) wA0)) (wAC (wV 1) wA0))))) (oE (wC (.int 0)))))))

def wf_state (sp_run : FSpec) (sp_first_state : FSpec) (sp_need_signal : FSpec) (sp_need_chain : FSpec) : WS :=
  (wSeq (wDrop (wCall 1 sp_need_chain (wAC (wV 0) wA0)))
  (wSeq (wDrop (wCall 2 sp_need_signal (wAC (wV 0) (wAC (wV 1) wA0))))
  (wRet (wB opIxX (oE (wCall 3 sp_run (wAC (wB opIxX (oV 0) (oE (wC (.int 2)))) (wAC (wCall 1 sp_first_state (wAC (wV 0) wA0)) (wAC (wV 1) wA0))))) (oE (wC (.int 1)))))))

def wf_passes (sp_output : FSpec) : WS :=
  (wRet (wB (opEq false) (oE (wCall 2 sp_output (wAC (wV 0) (wAC (wV 1) wA0)))) (oV 1)))

def wf_law_bool : WS :=
  (wRet (vAnd (wIsi isBl (oV 0)) (wB (opEq false) (oV 0) (oV 1))))

def wf_law_sort : WS :=
  (wSeq (wIfS (wTst (wIsi isBl (oV 0)))
  (wRet (wC (.int 1)))
  wNil)
  (wSeq (wIfS (wTst (wIsi isInt (oV 0)))
  (wRet (wC (.int 2)))
  wNil)
  (wSeq (wIfS (wTst (wIsi isStr (oV 0)))
  (wRet (wC (.int 3)))
  wNil)
  (wSeq (wIfS (wTst (wIsi isLst (oV 0)))
  (wRet (wC (.int 4)))
  wNil)
  (wRet (wIf (wTst (wIsi isTup (oV 0))) (wC (.int 5)) (wC (.int 6))))))))

def wf_law_same (sp__law_sort : FSpec) (sp__law_same : FSpec) : WS :=
  (wSeq (wIfS (wTst (wB (opEq true) (oE (wCall 1 sp__law_sort (wAC (wV 0) wA0))) (oE (wCall 1 sp__law_sort (wAC (wV 1) wA0)))))
  (wRet (wC (.bl false)))
  wNil)
  (wSeq (wIfS (wAnd (wTst (wB opGt (oE (wCall 1 sp__law_sort (wAC (wV 0) wA0))) (oE (wC (.int 3))))) (wTst (wB opLt (oE (wCall 1 sp__law_sort (wAC (wV 0) wA0))) (oE (wC (.int 6))))))
  (wSeq (wIfS (wTst (wB (opEq true) (oE (wCB opLenX (wUC (oV 0) wA0))) (oE (wCB opLenX (wUC (oV 1) wA0)))))
  (wRet (wC (.bl false)))
  wNil)
  (wRet (wB (opEq false) (oE (wLc [2, 3] (iEn (wAC (wV 0) wA0)) (gT (gCs (gN 2) (gCs (gN 3) gNl))) (wNot (wTst (wCall 2 sp__law_same (wAC (wV 3) (wAC (wB opIxX (oV 1) (oV 2)) wA0))))) (wV 2))) (oE (wLst wA0)))))
  wNil)
  (wRet (wB (opEq false) (oV 0) (oV 1)))))

def wf_law_first : WS :=
  (wSeq (wPr2 1 2 (wLC (wB opIxX (oV 0) (oE (wC (.int 1)))) (wLC (wLst wA0) wL0)))
  (wSeq (wFor (iW (wB opIxX (oV 0) (oE (wC (.int 2))))) (gN 3)
  (wIfS (wTst (wB (opEq false) (oE (wB opIxX (oV 3) (oE (wC (.int 0))))) (oE (wC (.str "clip")))))
  (wSeq (wSet 1 (wCB opMax2 (wUC (oE (wB opIxX (oV 3) (oE (wC (.int 1))))) (wUC (oE (wCB opMin2 (wUC (oE (wB opIxX (oV 3) (oE (wC (.int 2))))) (wUC (oV 1) wA0)))) wA0))))
  (wApp 2 (wC (.int 0))))
  (wIfS (wTst (wB (opEq false) (oE (wB opIxX (oV 3) (oE (wC (.int 0))))) (oE (wC (.str "gate")))))
  (wSeq (wApp 2 (wIf (wTst (wB opGe (oV 1) (oE (wB opIxX (oV 3) (oE (wC (.int 2))))))) (wC (.int 1)) (wC (.int 0))))
  (wSet 1 (wIf (wTst (wB opGe (oV 1) (oE (wB opIxX (oV 3) (oE (wC (.int 2))))))) (wV 1) (wC (.int 0)))))
  (wApp 2 (wIf (wTst (wB (opEq false) (oE (wB opIxX (oV 3) (oE (wC (.int 0))))) (oE (wC (.str "hold"))))) (wTup (wAC (wV 1) (wAC (wC (.int 0)) wA0))) (wV 1))))))
  (wRet (wCB opTuple (wUC (oV 2) wA0)))))

def wf_law_tick : WS :=
  (wSeq (wSet 3 (wLst wA0))
  (wSeq (wFor (iZp (wAC (wB opIxX (oV 0) (oE (wC (.int 2)))) (wAC (wV 1) wA0))) (gT (gCs (gN 4) (gCs (gN 5) gNl)))
  (wIfS (wTst (wB (opEq false) (oE (wB opIxX (oV 4) (oE (wC (.int 0))))) (oE (wC (.str "slew")))))
  (wSeq (wIfS (wTst (wB opGt (oV 2) (oE (wB opAdd (oV 5) (oE (wB opIxX (oV 4) (oE (wC (.int 1)))))))))
  (wSet 2 (wB opAdd (oV 5) (oE (wB opIxX (oV 4) (oE (wC (.int 1)))))))
  wNil)
  (wSeq (wIfS (wTst (wB opLt (oV 2) (oE (wB opSub (oV 5) (oE (wB opIxX (oV 4) (oE (wC (.int 2)))))))))
  (wSet 2 (wB opSub (oV 5) (oE (wB opIxX (oV 4) (oE (wC (.int 2)))))))
  wNil)
  (wApp 3 (wV 2))))
  (wIfS (wTst (wB (opEq false) (oE (wB opIxX (oV 4) (oE (wC (.int 0))))) (oE (wC (.str "clip")))))
  (wSeq (wSet 2 (wCB opMax2 (wUC (oE (wB opIxX (oV 4) (oE (wC (.int 1))))) (wUC (oE (wCB opMin2 (wUC (oE (wB opIxX (oV 4) (oE (wC (.int 2))))) (wUC (oV 2) wA0)))) wA0))))
  (wApp 3 (wC (.int 0))))
  (wIfS (wTst (wB (opEq false) (oE (wB opIxX (oV 4) (oE (wC (.int 0))))) (oE (wC (.str "gate")))))
  (wSeq (wIfS (wAnd (wTst (wB (opEq false) (oV 5) (oE (wC (.int 1))))) (wTst (wB opLt (oV 2) (oE (wB opIxX (oV 4) (oE (wC (.int 1))))))))
  (wSet 5 (wC (.int 0)))
  (wIfS (wAnd (wTst (wB (opEq false) (oV 5) (oE (wC (.int 0))))) (wTst (wB opGe (oV 2) (oE (wB opIxX (oV 4) (oE (wC (.int 2))))))))
  (wSet 5 (wC (.int 1)))
  wNil))
  (wSeq (wSet 2 (wIf (wTst (wB (opEq false) (oV 5) (oE (wC (.int 1))))) (wV 2) (wC (.int 0))))
  (wApp 3 (wV 5))))
  (wIfS (wTst (wB opGt (oE (wB opIxX (oV 5) (oE (wC (.int 1))))) (oE (wC (.int 0)))))
  (wSeq (wSet 2 (wB opIxX (oV 5) (oE (wC (.int 0)))))
  (wApp 3 (wTup (wAC (wV 2) (wAC (wB opSub (oE (wB opIxX (oV 5) (oE (wC (.int 1))))) (oE (wC (.int 1)))) wA0)))))
  (wApp 3 (wTup (wAC (wV 2) (wAC (wIf (wTst (wB (opEq false) (oV 2) (oE (wB opIxX (oV 5) (oE (wC (.int 0))))))) (wC (.int 0)) (wB opIxX (oV 4) (oE (wC (.int 1))))) wA0)))))))))
  (wRet (wTup (wAC (wV 2) (wAC (wCB opTuple (wUC (oV 3) wA0)) wA0))))))

def wf_law_ran (sp__law_tick : FSpec) : WS :=
  (wSeq (wSet 3 (wTup wA0))
  (wSeq (wFor (iW (wV 2)) (gN 4)
  (wSeq (wAsg (wCall 3 sp__law_tick (wAC (wV 0) (wAC (wV 1) (wAC (wV 4) wA0)))) (gT (gCs (gN 5) (gCs (gN 1) gNl))))
  (wSet 3 (wB opAdd (oV 3) (oE (wTup (wAC (wV 5) wA0)))))))
  (wRet (wTup (wAC (wV 3) (wAC (wV 1) wA0))))))

def wf_law_same_v2 (sp__law_sort : FSpec) (sp__law_same : FSpec) : WS :=
  (wSeq (wIfS (wTst (wB (opEq true) (oE (wCall 1 sp__law_sort (wAC (wV 0) wA0))) (oE (wCall 1 sp__law_sort (wAC (wV 1) wA0)))))
  (wRet (wC (.bl false)))
  wNil)
  (wSeq (wIfS (wAnd (wTst (wB opGt (oE (wCall 1 sp__law_sort (wAC (wV 0) wA0))) (oE (wC (.int 3))))) (wTst (wB opLt (oE (wCall 1 sp__law_sort (wAC (wV 0) wA0))) (oE (wC (.int 6))))))
  (wSeq (wIfS (wTst (wB (opEq true) (oE (wCB opLenX (wUC (oV 0) wA0))) (oE (wCB opLenX (wUC (oV 1) wA0)))))
  (wRet (wC (.bl false)))
  wNil)
  (wRet (wB (opEq false) (oE (wLc [2, 3] (iEn (wAC (wV 0) wA0)) (gT (gCs (gN 2) (gCs (gN 3) gNl))) (wNot (wTst (wCall 2 sp__law_same (wAC (wV 3) (wAC (wB opIxX (oV 1) (oV 2)) wA0))))) (wV 2))) (oE (wLst wA0)))))
  wNil)
  (wRet (wB (opEq false) (oV 0) (oV 1)))))

end VC

set_option Elab.async false
set_option linter.all false
set_option maxRecDepth 100000
set_option maxHeartbeats 4000000
/-! ZA: exceptions: a def that may raise, its promise, its call, raise. -/
namespace VC
open PySem PySem.Spec PyProof.Rows L2
/-- how an exception stands -/
def XRep (mg : Str → Option Value) (w : WK) (g : Gh) (H : Hp) (x : XD) (cls : Value) (d : Option Addr) : Prop :=
  (∃ C, mg x.cls = some (.ref C) ∧ cls = .ref C) ∧ match x.fs with
    | [] => d = none
    | (f, e) :: _ => ∃ dd v, d = some dd ∧ H dd = some (.xd [(f, v)]) ∧ Rep mg w g H e v
/-- a promise with ways out by exceptions -/
def SpX (mg : Str → Option Value) (w : WK) (n : Nat) (sp : FSpec) : Sp := fun vs H Q E => vs.length = n ∧ ∃ g S ds R RE, StoOk mg w g H S ∧ RepAll mg w g H ds vs ∧ sp ds S R RE ∧
  (∀ v H' g' t S', Stp g H g' H' → StoOk mg w g' H' S' → (∀ a, g'.F a → g.F a ∨ H a = none) → RF mg w H g' H' t v → R t S' → Q v H') ∧
  ∀ cls d H' g' x S', Stp g H g' H' → StoOk mg w g' H' S' → (∀ a, g'.F a → g.F a ∨ H a = none) → XRep mg w g' H' x cls d → RE x S' → E cls d H'
/-- where the exceptions of a body go: Ex, told at the entry's heap B and ghosts g0 -/
structure XW (X : Cx) (B : Hp) (g0 : Gh) (Ex : XD → Sto → Prop) : Prop where
  ex : ∃ W : L2.WX, L2N.Takes X W ∧ ∀ cls d σ' H' x S' g', Stp g0 B g' H' → StoOk X.mg X.wk g' H' S' → (∀ a, g'.F a → g0.F a ∨ B a = none) → XRep X.mg X.wk g' H' x cls d → Ex x S' → W cls d σ' H'
/-- the facts of a def that may raise -/
structure FnX (P : Program) (w : World) (K : PySem.W.Frag) (mg : Str → Option Value) (base : Heap) (x : Str) (n k : Nat) (sp : FSpec) : Prop where
  mono : MoF sp
  ex : ∃ (f : Addr) (fd : FuncData) (ps : List Str) (dds : List D) (dvs : List V) (us : List Value) (sp0 : FSpec), FnOk P w K mg base (L2N.CX P w) k f fd ps (SpX mg (w, K) (n + dds.length) sp0) ∧ mg x = some (.ref f) ∧ PySem.W.keepIn K (.ref f) = true ∧ Binds K fd ps us ∧ Vals dvs us ∧ (∀ g H, RepAll mg (w, K) g H dds dvs) ∧ ∀ ds S R E, sp ds S R E → sp0 (ds ++ dds) S R E
theorem FnX.of {P : Program} {w : World} {K : PySem.W.Frag} {mg : Str → Option Value} {base : Heap} {x : Str} {n k : Nat} {sp : FSpec} {f : Addr} {fd : FuncData} {ps : List Str} (m : MoF sp) (G : FnOk P w K mg base (L2N.CX P w) k f fd ps (SpX mg (w, K) n sp)) (hm : mg x = some (.ref f)) (hk : PySem.W.keepIn K (.ref f) = true) (hb : Binds K fd ps []) : FnX P w K mg base x n k sp :=
  ⟨m, f, fd, ps, [], [], [], sp, G, hm, hk, hb, .nil, fun _ _ => .nil, fun ds S R E q => by rw [List.append_nil]; exact q⟩
def wCallX (n : Nat) (sp : FSpec) (Ex : XD → Sto → Prop) (W : WA) : WE := fun env S Q => W env S fun ds env1 S1 => ds.length = n ∧ sp ds S1 (fun t S2 => Q t env1 S2) Ex
section
variable {X : Cx} {B : Hp} {g0 : Gh} {e : Expr} {es : List Expr} {pos : Pos} {Ex : XD → Sto → Prop}
theorem wCallX_mono {n : Nat} {sp : FSpec} {W : WA} (mf : MoF sp) (m : Mo W) : Mo (wCallX n sp Ex W) := fun _ _ _ _ i q => m _ _ _ _ (fun _ _ _ q => if_mono (mf _ _ _ _ _ fun _ _ => i _ _ _) q) q
/-- the wish of a call, by heaps -/
def xOut (X : Cx) (B : Hp) (g0 : Gh) (Ex : XD → Sto → Prop) : XK := fun cls d H' => ∃ x S' g', Stp g0 B g' H' ∧ StoOk X.mg X.wk g' H' S' ∧ (∀ a, g'.F a → g0.F a ∨ B a = none) ∧ XRep X.mg X.wk g' H' x cls d ∧ Ex x S'
theorem XW.passes (h : XW X B g0 Ex) : Passes (L2N.CX X.prog X.w) X (xOut X B g0 Ex) := by
  obtain ⟨W, tk, hW⟩ := h.ex
  exact L2N.passes_call tk fun cls d σ H' ⟨x, S', g', h1, h2, h3, h4, h5⟩ => hW cls d σ H' x S' g' h1 h2 h3 h4 h5
theorem ve_callX {x : Str} {n k : Nat} {sp : FSpec} {W : WA} {p : Pos} (hx : XW X B g0 Ex) (F : FnX X.prog X.w X.K X.mg X.base x n k sp) (hr : Room k X.A) (hg : Gl X x) (ha : VA X B g0 (e :: es) W) (hdb : (x == ("__debug__" : Str)) = false := by decide)
    (he : starEach (e :: es) X.env = (false, eval e X.env) :: starEach es X.env := by rfl) (hpl : (backTo pos (starEach es X.env)).any (·.1) = false := by rfl) : VE X B g0 (.Call (.Name x p) (e :: es) [] pos) (wCallX n sp Ex W) := by
  obtain ⟨f, fd, ps, dds, dvs, us, sp0, G, hm, hk, hb, hd, rd, is⟩ := F.ex
  refine VE.of (wCallX_mono F.mono ha.mono) (pe_call G hr hg hm hk hb hd hx.passes ha.pa hdb he hpl) fun σ H env S g Q R q => ?_
  refine ⟨env, S, g, _, R, q, fun vs H1 ⟨g1, ds, env1, S1, st1, R1, ra, q1⟩ => ?_⟩
  obtain ⟨hl, q1⟩ := if_false q1
  refine ⟨by rw [List.length_append, ← ra.length, ← (rd g1 H1).length, hl], g1, S1, ds ++ dds, _, _, R1.sto, ra.append (rd g1 H1), is _ _ _ _ q1, fun v H2 g2 t S2 st2 so hf rf q2 => ?_, fun cls d H2 g2 y S2 st2 so hf xr q2 => ?_⟩
  · exact ⟨g2, t, env1, S2, st1.trans st2, R1.called st2 so hf, R1.rf rf, q2⟩
  · have R2 := R1.called st2 so hf
    exact ⟨y, S2, g2, R2.base, R2.sto, R2.fN, xr, q2⟩
/-- raise X('..') -/
structure ExF (K : PySem.W.Frag) (mg : Str → Option Value) (x : Str) : Prop where
  ex : ∃ C, mg x = some (.ref C) ∧ PySem.W.excIn K C He.veBase "ValueError.__new__" = true ∧ PySem.W.keepIn K (.ref C) = true ∧ PySem.W.subIn K (.ref C) (.type "BaseException") = some true ∧ PySem.W.typeIn K (.ref C) = some (.type "type")
def wRaise (x : Str) (Ex : XD → Sto → Prop) : WS := fun _ _ S => Ex ⟨x, []⟩ S
end
section
variable {P : Program} {w : World} {K : PySem.W.Frag} {mg : Str → Option Value} {base : Heap}
abbrev cxY (P : Program) (w : World) (K : PySem.W.Frag) (mg : Str → Option Value) (base : Heap) (N : List Str) (qual : Str) (sc : Scope) (f : Addr) (cdv : Value) (A : Around) (outer : List Env) (s : Shared) (H : Hp) (E : XK) : Cx := cxOf (L2N.CX P w) P w K mg base N qual sc f cdv A outer s H E
/-- THE RULE for a def that may raise -/
theorem fn_okX {x qual : Str} {st : Stmt} {dvs : List V} {kws : List (Str × V)} {f : Addr} {fd : FuncData} {N ps : List Str} {k n : Nat} {sp : FSpec} {W : (XD → Sto → Prop) → WS} (F : FunD K x qual (defArgs st) (defBody st) (defScope st) dvs kws f fd) (Sc : FnScope N ps (defScope st)) (hn : n = ps.length)
    (hb : ∀ (cdv : Value) (A : Around) (outer : List Env) (s : Shared) (H : Hp) (E : XK) (B : Hp) (g0 : Gh) (Ex : XD → Sto → Prop), Room k (A.deeper (envOfC qual (defScope st) s.heap.objs.size f cdv)) → XW (cxY P w K mg base N qual (defScope st) f cdv A outer s H E) B g0 Ex → VSs (cxY P w K mg base N qual (defScope st) f cdv A outer s H E) B g0 (defBody st) (W Ex))
    (hv : ∀ ds S R RE, sp ds S R RE → W RE { nx := fun _ s => R (.val .non) s, rt := R } (env0 N.length ds) S) : FnOk P w K mg base (L2N.CX P w) (k + 1) f fd ps (SpX mg (w, K) n sp) := by
  refine F.ok Sc (fun vs H Q E h => h.1.trans hn) fun cdv A outer s H vs Q E hr ⟨hl, g, S, ds, R, RE, so, ra, hsp, fin, fex⟩ => ?_
  have hx : XW (cxY P w K mg base N qual (defScope st) f cdv A outer s H E) H g RE := ⟨fun cls d _ H' => E cls d H', L2N.takes_of rfl rfl rfl rfl, fun cls d σ' H' y S' g' s1 s2 s3 xr q => fex cls d H' g' y S' s1 s2 s3 xr q⟩
  refine ⟨_, (hb cdv A outer s H E H g RE hr hx).ps, env0 N.length ds, S, g, _, rp_start so ra, hv ds S R RE hsp, ?_⟩
  refine ⟨fun σ' H' ⟨g', env', S', z, R', q⟩ => ?_, fun v H' ⟨g', t, σ', env', S', R', rt, q⟩ => ?_, fun _ _ ⟨_, _, _, _, _, q⟩ => q, fun _ _ ⟨_, _, _, _, _, q⟩ => q⟩
  · exact fin .non H' g' (.val .non) S' R'.base R'.sto R'.fN Rep.non q
  · refine fin v H' g' t S' R'.base R'.sto R'.fN ?_ q
    cases t with
    | val d => exact rt
    | own m => obtain ⟨a, h1, h2, h3, h4, h5, _⟩ := rt; exact ⟨a, h1, h2, h3, h4, h5⟩
end
end VC

set_option Elab.async false
set_option linter.all false
set_option maxRecDepth 100000
set_option maxHeartbeats 4000000
/-! ZB: iterators that end while an exception is handled. -/
namespace VC
open PySem PySem.Spec PyProof.Rows L2
section
variable {prog : Program} {w : World} {A : Around} {E : Value → Shared → Prop} {s : Shared} {x1 : Addr}
/-- a new StopIteration is raised -/
theorem stopHot {α : Type} {Q : α → Shared → Prop} (hot : HotX.HotAt A x1 s.heap)
    (hE : ∀ h' e, (∀ b o, s.heap.get? b = some o → h'.get? b = some o) → (∃ o, h'.get? e = some o ∧ o.cls = .type "StopIteration") → E (.ref e) { s with heap := h' }) :
    wpAny (model prog w) A (newExc (.type "StopIteration") [] >>= fun e => (raiseNew e : Sem α)) Q E s := by
  obtain ⟨hh, o1, vs1, g1, d1, c1⟩ := hot
  refine wpAny_bind ?_; simp only [newExc, newTuple]; refine wpAny_bind (wpAny_newObj_type (wpAny_bind (m := firstArgMember _ _) (wpAny_of_eq (a := Value.none) (by first | rfl | (simp only [firstArgMember]; rfl)) (wpAny_newObj_type ?_ (by size_fits)))) (by size_fits))
  have g2 := Heap.get?_push_of_some ({ cls := .type "tuple", data := .seq ([] : List Value).toArray } : Obj) g1
  refine HotX.raiseNew_hot ⟨hh, o1, vs1, Heap.get?_push_of_some _ (Heap.get?_push_of_some _ g1), d1, c1⟩ (Nat.ne_of_lt (Heap.lt_size (Heap.get?_push_of_some _ g1))) (Heap.get?_push_size _ rfl) rfl (by first | (simp; done) | (simp; omega) | (simp only [Array.size_append]; simp; omega)) (hE _ _ (fun b o e => ?_) ⟨_, Heap.get?_update_self _ (Heap.get?_push_size _ rfl) rfl, rfl⟩)
  rw [Heap.get?_update_other _ _ (Nat.ne_of_gt (Heap.lt_size (Heap.get?_push_of_some _ e)))]; exact Heap.get?_push_of_some _ (Heap.get?_push_of_some _ e)
theorem setHot {it : Addr} {h' : Heap} (hot : HotX.HotAt A x1 s.heap) (n : x1 ≠ it) (e : ∀ b, b ≠ it → h'.get? b = s.heap.get? b) : HotX.HotAt A x1 h' := by
  obtain ⟨hh, o, vs, g, d, c⟩ := hot
  exact ⟨hh, o, vs, (e _ n).trans g, d, c⟩
/-- a tuple's iterator is at its end -/
theorem tupEndHot {it t : Addr} {i : Nat} {items : Array Value} {Q : Option Value → Shared → Prop} (hot : HotX.HotAt A x1 s.heap) (n : x1 ≠ it) (hit : s.heap.IsTupleIter it t i) (ht : s.heap.IsTuple t items) (hx : items[i]? = none)
    (hQ : ∀ h', Heap.ExtBut it s.heap h' → Q none { s with heap := h' }) : wpAny (model prog w) A (pyNext (.ref it)) Q E s := by
  obtain ⟨o, ho, hc, hd⟩ := id hit
  obtain ⟨ol, hol, _, nl, hdl⟩ := ht
  unfold pyNext; refine wpAny_bind (wpAny_attempt (wpAny_callSpecial?_slot (name := Str.ofString "__next__") hit.typeIs F.slot_tuple_iterator_next (wpAny_call_entry F.slot_tuple_iterator_next hit.typeIs F.entry_tuple_iterator_next ?_ (F.args_tuple_iterator_next_1 _))))
  change wpAny _ _ (field (.ref it) 0 >>= _) _ _ s; refine wpAny_bind (wpAny_field ho hd (x := .ref t) rfl ?_)
  change wpAny _ _ (if (Value.ref t == Value.none) = true then _ else _) _ _ s; rw [if_neg (show ¬ ((Value.ref t == Value.none) = true) from nofun)]
  change wpAny _ _ (field (.ref it) 1 >>= _) _ _ s; refine wpAny_bind (wpAny_field ho hd (x := .int i 0) rfl ?_)
  change wpAny _ _ (seqItems? (.ref t) >>= _) _ _ s; refine wpAny_bind (wpAny_seqItems hol hdl ?_); simp only [Int.toNat_natCast, hx]
  refine wpAny_bind (wpAny_rule (wpAny_bind (wpAny_setField ho hd (by simp) (stopHot (setHot hot n fun b hb => Heap.get?_update_other _ _ (Ne.symm hb)) fun h' e k hs => ?_))))
  obtain ⟨oe, hoe, hce⟩ := hs
  refine wpAny_bind (wpAny_isInstance (T := "StopIteration") (b := true) ⟨oe, hoe, hce⟩ isSubtype_stop (wpAny_pure (hQ _ fun b u hb e => k b u ?_)))
  rw [Heap.get?_update_other _ _ (Ne.symm hb)]; exact e
/-- .. a list's, asked by zip -/
theorem lstEndHot {it l : Addr} {i : Nat} {items : Array Value} {Q : Value → Shared → Prop} (hot : HotX.HotAt A x1 s.heap) (n : x1 ≠ it) (hit : s.heap.IsListIter it l i) (hl : s.heap.IsList l items) (hx : items[i]? = none)
    (hE : ∀ h' e, Heap.ExtBut it s.heap h' → (∃ o, h'.get? e = some o ∧ o.cls = .type "StopIteration") → E (.ref e) { s with heap := h' }) : wpAny (model prog w) A (Builtin.SmallTypes.nextOf (.ref it)) Q E s := by
  obtain ⟨o, ho, hc, hd⟩ := id hit
  obtain ⟨ol, hol, _, nl, hdl⟩ := hl
  unfold Builtin.SmallTypes.nextOf; refine wpAny_bind (wpAny_callSpecial?_slot (name := Str.ofString "__next__") hit.typeIs slot_listiter_next (wpAny_call_entry slot_listiter_next hit.typeIs entry_listiter_next ?_ (args_listiter_next _)))
  change wpAny _ _ (field (.ref it) 0 >>= _) _ _ s; refine wpAny_bind (wpAny_field ho hd (x := .ref l) rfl ?_)
  change wpAny _ _ (if (Value.ref l == Value.none) = true then _ else _) _ _ s; rw [if_neg (show ¬ ((Value.ref l == Value.none) = true) from nofun)]
  change wpAny _ _ (field (.ref it) 1 >>= _) _ _ s; refine wpAny_bind (wpAny_field ho hd (x := .int i 0) rfl ?_)
  change wpAny _ _ (seqItems? (.ref l) >>= _) _ _ s; refine wpAny_bind (wpAny_seqItems hol hdl ?_); simp only [Int.toNat_natCast, hx]
  refine wpAny_bind (wpAny_rule (wpAny_bind (wpAny_setField ho hd (by simp) (stopHot (setHot hot n fun b hb => Heap.get?_update_other _ _ (Ne.symm hb)) fun h' e k hs => hE _ _ (fun b u hb e => k b u ?_) hs))))
  rw [Heap.get?_update_other _ _ (Ne.symm hb)]; exact e
/-- zip of two lists is at its end: the first one is -/
theorem zipEndHot {z TI TO i1 i2 l1 l2 : Addr} {k1 : Nat} {xs : Array Value} {a b : Value} {Q : Option Value → Shared → Prop} (hot : HotX.HotAt A x1 s.heap) (nz : x1 ≠ z) (ni : x1 ≠ i1) (D : ZipApart z TI TO i1 i2 l1 l2)
    (hz : IsZip s.heap z TI TO .none) (hTI : IsPair s.heap TI (.ref i1) (.ref i2)) (hTO : IsPair s.heap TO a b) (h1 : s.heap.IsListIter i1 l1 k1) (hl1 : s.heap.IsList l1 xs) (hx : xs[k1]? = none)
    (hQ : ∀ h', (∀ c o, c ≠ z → c ≠ i1 → s.heap.get? c = some o → h'.get? c = some o) → Q none { s with heap := h' }) : wpAny (model prog w) A (pyNext (.ref z)) Q E s := by
  have hT : s.TypeIs (.ref z) "zip" := ⟨_, hz, rfl⟩
  unfold pyNext; refine wpAny_bind (wpAny_attempt (wpAny_callSpecial?_slot (name := Str.ofString "__next__") hT F.slot_zip_next (wpAny_call_entry F.slot_zip_next hT F.entry_zip_next ?_ (F.args_zip_next_1 _))))
  change wpAny _ _ (field (.ref z) 2 >>= _) _ _ _; refine wpAny_bind (wpAny_field hz rfl (x := .bool false) rfl ?_)
  change wpAny _ _ (field (.ref z) 3 >>= _) _ _ _; refine wpAny_bind (wpAny_field hz rfl (x := .ref TI) rfl (wpAny_bind (wpAny_seqItems hTI rfl ?_)))
  change wpAny _ _ (Builtin.SmallTypes.ownedTupleIsFree (.ref z) >>= _) _ _ _; refine wpAny_bind ?_
  unfold Builtin.SmallTypes.ownedTupleIsFree; refine wpAny_bind (wpAny_field hz rfl (x := .none) rfl (wpAny_pure ?_)); simp only [if_true]
  refine wpAny_bind (wpAny_rule (wpAny_bind (wpAny_field hz rfl (x := .ref TO) rfl (wpAny_bind (wpAny_setField_rec hz (by simp) fun ha hza sba => ?_)))))
  replace hza : IsZip ha z TI TO .ellipsis := hza
  refine wpAny_bind ?_; simp only [List.zipIdx_cons, List.zipIdx_nil, List.forIn_cons, List.forIn_nil]; refine wpAny_bind (wpAny_bind (wpAny_onRaise ?_))
  change wpAny _ _ (Builtin.SmallTypes.nextOf (.ref i1) >>= _) _ _ _
  refine wpAny_bind (lstEndHot (setHot hot nz fun b hb => sba.2 b hb) ni (h1.extBut sba.extBut D.i1z) (hl1.extBut sba.extBut D.l1z) hx fun hb e kb he => ?_)
  obtain ⟨oe, hoe, hce⟩ := he
  have hzb : IsZip hb z TI TO .ellipsis := kb _ _ D.i1z.symm hza
  have ne : e ≠ z := fun q => by
    rw [q, hzb] at hoe; cases hoe; simp at hce
  refine wpAny_setField_rec hzb (by simp) fun hc _ sbc => ?_
  refine wpAny_bind (wpAny_isInstance (T := "StopIteration") (b := true) ⟨oe, sbc.extBut _ _ ne hoe, hce⟩ isSubtype_stop (wpAny_pure (hQ _ fun c o c1 c3 q => ?_)))
  exact sbc.extBut _ _ c1 (kb _ _ c3 (sba.extBut _ _ c1 q))
end
end VC

set_option Elab.async false
set_option linter.all false
set_option maxRecDepth 100000
set_option maxHeartbeats 4000000
/-! ZC: a comprehension over zip while an exception is handled. -/
namespace VC
open PySem PySem.Spec PyProof.Rows L2
/-- the pinned exception that is handled -/
def HotP (X : Cx) (q : Addr × Obj) : Prop := L2H.Hot1 X.A q
theorem HotP.at {X : Cx} {q : Addr × Obj} {pins : List (Addr × Obj)} {σ : L2.St} {H : Hp} {s : Shared} (h : HotP X q) (I : Inv X pins σ H s) (m : q ∈ X.pn ++ pins) : HotX.HotAt X.A q.1 s.heap := by
  obtain ⟨hh, vs, e, c⟩ := h
  exact ⟨hh, q.2, vs, (I.pin q m).1, e, c⟩
theorem inv_pin1 {X : Cx} {pins : List (Addr × Obj)} {σ : L2.St} {H : Hp} {s : Shared} (I : Inv X pins σ H s) {q : Addr × Obj} (h : s.heap.get? q.1 = some q.2 ∧ H q.1 = none ∧ q.1 ≠ X.env.locals ∧ q.1 ∉ X.fs ∧ ∀ v, q.2.data ≠ .cell v) : Inv X (q :: pins) σ H s :=
  I.pins_of fun p hp => by
    rcases List.mem_cons.mp hp with rfl | hp
    · exact h
    · exact I.pin p (List.mem_append_right _ hp)
section
variable {prog : Program} {w : World} {A : Around} {E : Value → Shared → Prop} {s : Shared} {x1 : Addr}
theorem unpackHot {t : Addr} {items : Array Value} {Q : List Value → Shared → Prop} (hot : HotX.HotAt A x1 s.heap) (ht : s.heap.IsTuple t items)
    (hQ : ∀ h', Heap.ExtBut s.heap.objs.size s.heap h' → Q items.toList { s with heap := h' }) : wpAny (model prog w) A (unpackItems (.ref t) items.size none) Q E s := by
  have ne : t ≠ s.heap.objs.size := by obtain ⟨o, ho, _⟩ := ht; exact Nat.ne_of_lt (Heap.lt_size ho)
  have nx : x1 ≠ s.heap.objs.size := by obtain ⟨_, o, vs, ho, _⟩ := hot; exact Nat.ne_of_lt (Heap.lt_size ho)
  unfold unpackItems notIterableAtAll
  refine wpAny_bind (wpAny_bind (wpAny_specialOf ht.typeIs F.slot_tuple_iter.lookup (wpAny_pure ?_)))
  simp only [Bool.false_eq_true, if_false]; refine wpAny_bind (wpAny_holding (wpAny_pyIter_tuple ht (wpAny_bind (wpAny_holding (wpAny_draw_tuple ne items.size 0 _ _ ⟨_, Heap.get?_push_size _ rfl, rfl, rfl⟩ (ht.push _) (by omega) fun h1 it1 sb1 => ?_)))))
  have all : List.take items.size (List.drop 0 items.toList) = items.toList := by rw [List.drop_zero, ← Array.length_toList, List.take_length]
  rw [all, if_neg (by simp)]
  have t1 : h1.IsTuple t items := (ht.push _).extBut sb1.extBut ne
  have hot1 : HotX.HotAt A x1 h1 := by
    obtain ⟨hh, o, vs, g, d, c⟩ := hot
    exact ⟨hh, o, vs, sb1.extBut _ _ nx (Heap.get?_push_of_some _ g), d, c⟩
  refine wpAny_bind (wpAny_holding (tupEndHot (s := { s with heap := h1 }) hot1 nx it1 t1 (by simp) fun h2 e2 => ?_))
  simp only [Option.isSome_none, Bool.false_eq_true, if_false]; exact wpAny_pure (hQ h2 fun b o hb e => e2 b o hb (sb1.extBut b o hb (Heap.get?_push_of_some _ e)))
end
theorem pg_tupH {X : Cx} {es : List Expr} {k n : Nat} {pos : Pos} {t : TGs} {q : Addr × Obj} (hot : HotP X q) (hq : q ∈ X.pn) (h : PGs X es t) (hn : (assignEach es X.env).length = n := by rfl) (hst : (assignEach es X.env).findIdx? (·.1) = none := by rfl) :
    PG X (.Tuple es k pos) (gTup X.K n t) := by
  refine ⟨fun pins s σ H v u Q I r ⟨a, xs, e1, hs, hl, hw⟩ => ?_⟩
  subst e1; cases r
  obtain ⟨its, rv, ht, hz⟩ := I.tuple hs
  have hsz : (assignEach es X.env).length = its.toArray.size := by simp [hn, ← hl, rv.length]
  rw [PyProof.Rows.assign_Tuple]; unfold unpack; rw [hsz, hst]
  refine wpAny_bind (wpAny_standAt (wpAny_bind (wpAny_holding (unpackHot (hot.at I (List.mem_append_left _ hq)) (show s.heap.IsTuple a its.toArray from ht) fun h' hx => ?_))))
  have J : Inv X pins σ H { s with heap := h' } := I.kept (t' := s.toks) fun b o e => hx b o (Nat.ne_of_lt (Heap.lt_size e)) e
  exact h.run pins _ σ H xs _ Q J (by simpa using rv) hw
/-- the reading of y = [e for u, v in zip(a, b) if t]: two lists of one length; Pv says what holds behind i turns -/
def tLcz (K : PySem.W.Frag) (ta : TA) (g : TG) (tt : TT) (te : TE) (vs : List Nat) (iy : Nat) : TS := fun D σ H => ta σ H fun us H1 => ∃ (a b : Addr) (xs ys : List V), us = [.ref a, .ref b] ∧ SqL K H1 a xs ∧ SqL K H1 b ys ∧ xs.length = ys.length ∧ ∀ L, H1 L = none →
  ∃ Pv : Nat → Hp → Prop, Pv 0 (upd H1 L (.lst [])) ∧ (∀ i H', Pv i H' → SqL K H' a xs ∧ SqL K H' b ys) ∧
    (∀ (i : Nat) (x y : V) (T : Addr) (H' : Hp), xs[i]? = some x → ys[i]? = some y → Pv i H' → H' T = none → g (.ref T) (wipe σ vs) (upd H' T (.tup [x, y])) fun σ2 H2 => wipe σ2 vs = wipe σ vs ∧ tt σ2 H2 fun c H3 =>
      if c = true then te σ2 H3 fun z H4 => ∃ acc, H4 L = some (.lst acc) ∧ acc.length < sizeLine ∧ Pv (i + 1) (upd H4 L (.lst (acc ++ [z]))) else Pv (i + 1) H3) ∧
    ∀ H', Pv xs.length H' → D.nx (σ.set iy (some (.ref L))) H'
/-- where zip's iterator stands -/
abbrev LczI (n0 : Nat) (a b : Addr) (i : Nat) (h : Heap) : Prop := IsZip h (n0 + 4) (n0 + 2) (n0 + 3) .none ∧ IsPair h (n0 + 2) (.ref n0) (.ref (n0 + 1)) ∧ (∃ x y, IsPair h (n0 + 3) x y) ∧ h.IsListIter n0 a i ∧ h.IsListIter (n0 + 1) b i
theorem ps_lcz {X : Cx} {q : Addr × Obj} {iy : Nat} {y : Str} {py p zp pos spos tpos : Pos} {elts : List Expr} {kk : Nat} {e1 e2 elt : Expr} {ifs : List Expr} {scope : Scope} {own : List (Str × Nat)} {ta : TA} {g : TG} {tt : TT} {te : TE}
    (hot : HotP X q) (hq : q ∈ X.pn) (hN : X.N.Nodup) (hy : X.N[iy]? = some y) (hyl : X.env.scope.names.lookup y = some .local)
    (hsw : swapsWith (.ListComp elt [⟨.Tuple elts kk tpos, .Call (.Name "zip" p) [e1, e2] [] zp, ifs, 0⟩] scope pos) (some (.Name y py)) spos.line X.env = pure true) (hz : Gl X "zip") (hm : X.mg "zip" = none) (ha : PA X [e1, e2] ta) (ok : BlkOk X.N X.env.scope scope own)
    (hg : ∀ (Y : Cx) (C : Addr) (cl : List (Str × Addr)), Y.prog = X.prog → Y.w = X.w → Y.K = X.K → Y.mg = X.mg → Y.A = X.A → Y.N = X.N → Y.env = compEnvC scope cl C X.env → Y.fn = (fun x => scope.names.lookup x == some .cell) → q ∈ Y.pn → PG Y (.Tuple elts kk tpos) g ∧ PTs Y ifs tt ∧ PE Y elt te)
    (hs : ∀ x, foldedSetIterable (.Call (.Name "zip" p) [e1, e2] [] zp) X.env x = pure x := by intro _; rfl) (hst : starEach [e1, e2] X.env = (false, eval e1 X.env) :: starEach [e2] X.env := by rfl) (hpl : (backTo zp (starEach [e2] X.env)).any (·.1) = false := by rfl) :
    PS X (.Assign [.Name y py] (.ListComp elt [⟨.Tuple elts kk tpos, .Call (.Name "zip" p) [e1, e2] [] zp, ifs, 0⟩] scope pos) spos) (tLcz X.K ta g tt te (own.map (·.2)) iy) := by
  refine ⟨fun pins s σ H D I h => ?_⟩
  have hfree : ∀ y ∈ scope.names, y.2 = .free → ∃ c, X.env.cells.lookup y.1 = some c := fun y hy e => (ok.free y hy e).elim (fun k => I.ok.has _ (.inl k)) fun k => I.ok.has _ (.inr k)
  rw [exec_Assign_Name_used _ _ _ _ hsw]
  refine wpAny_bind (wpAny_standAt ?_)
  have body : wpAny (model X.prog X.w) X.A (comprehension (.ListComp elt [⟨.Tuple elts kk tpos, .Call (.Name "zip" p) [e1, e2] [] zp, ifs, 0⟩] scope pos) scope X.env (firstIterPos [⟨.Tuple elts kk tpos, .Call (.Name "zip" p) [e1, e2] [] zp, ifs, 0⟩] pos) (newList []) false (eval (.Call (.Name "zip" p) [e1, e2] [] zp) X.env) (some (assign (.Name y py) X.env)))
      (fun _ s' => SP X pins D .next s') X.xe s := by
    refine wpAny_comprehension_free rfl hs (closure_ok hfree) ok.kind (fun y hy e => by rw [ok.uniq y hy, e]) ?_
    refine Call_ (ld_blt I hz hm PyProof.Rows.boot_zip (PyProof.Rows.callWith_type1 (thn (ha.run zp pins s σ H _ I h) fun us s1 ⟨vs, H1, I1, r1, q1⟩ => ?_) hst hpl))
    obtain ⟨a, b, xs, ys, ex, sx, sy, hl, q1⟩ := q1
    subst ex
    obtain ⟨u1, u2, rfl, ra, rb⟩ := vals2 r1
    cases ra; cases rb
    obtain ⟨its, rv, pa, _⟩ := I1.list sx
    obtain ⟨its2, rv2, pb, _⟩ := I1.list sy
    have la : a < s1.heap.objs.size := pa.lt
    have lb : b < s1.heap.objs.size := pb.lt
    refine call_zip_2 pa.isList pb.isList fun h2 z2 ti2 to2 l1 l2 hsz keep => wpAny_pyIter_zip z2 ?_
    have I2 : Inv X pins σ H1 { s1 with heap := h2 } := I1.kept (t' := s1.toks) keep
    refine wpAny_newObj_type (newEnv_comp ?_) (by show 0 ≤ sizeLine; decide)
    have AP := PySem.W.ktu_apart s1.heap.objs.size a b la lb
    have new1 : ∀ b, s1.heap.objs.size ≤ b → H1 b = none := fun b hb => I1.hok.fresh hb
    generalize hI : s1.heap.objs.size = n0 at *
    have hLn : H1 h2.objs.size = none := I2.hok.fresh (Nat.le_refl _)
    generalize hL : h2.objs.size = L at *
    obtain ⟨Pv, p0, pl, ps, pd⟩ := q1 L hLn
    generalize hfp : [n0 + 4, n0 + 2, n0 + 3, n0, n0 + 1] = fp
    have mfp : ∀ b, b ∈ fp ↔ b = n0 + 4 ∨ b = n0 + 2 ∨ b = n0 + 3 ∨ b = n0 ∨ b = n0 + 1 := fun b => by rw [← hfp]; simp
    have sfp : ∀ b ∈ fp, n0 ≤ b ∧ b < L := fun b hb => by rcases (mfp b).mp hb with h | h | h | h | h <;> omega
    -- the new list
    generalize hs3 : ({ s1 with heap := h2.push { cls := .type "list", data := .seq ([] : List Value).toArray } } : Shared) = s3
    have h3 : s3.heap = h2.push { cls := .type "list", data := .seq ([] : List Value).toArray } := by rw [← hs3]
    have sz3 : s3.heap.objs.size = L + 1 := by rw [h3, Heap.size_push, hL]
    have I3 : Inv X pins σ (upd H1 L (.lst [])) s3 := by
      rw [← hs3]
      refine I2.laid (t' := s1.toks) (fun b o e => Heap.get?_push_of_some _ e) (Nat.le_of_eq hL) ⟨Nat.zero_le _, [], 0, .nil, ?_⟩
      rw [← hL]; exact Heap.get?_push_size _ rfl
    have f3 : ∀ b ∈ fp, FpOk X pins (upd H1 L (.lst [])) b ∧ b < s3.heap.objs.size := fun b hb => by
      obtain ⟨k1, k2⟩ := sfp b hb
      refine ⟨I1.fpOk (by rw [hI]; exact k1) ?_, by omega⟩
      rw [upd_ne (Nat.ne_of_lt k2)]; exact new1 b k1
    have I4 := block_start I3 ok hN f3
    generalize hH3 : upd H1 L (.lst []) = H3 at *
    have Pq := I3.pin q (List.mem_append_left _ hq)
    generalize hC : s3.heap.objs.size = C at *
    have gHg := fun (Y : Cx) => hg Y C (cellsFrom (C + 1) scope.names (cloFrom X.env.cells scope.names []))
    change codeAny _ _ (.compStart _ 0 (.ref (n0 + 4)) (.ref L) (compEnvC scope (cellsFrom (C + 1) scope.names (cloFrom X.env.cells scope.names [])) C X.env)) (compPost (model X.prog X.w) X.A X.xe _ _ (.ref L) C) { s3 with heap := pushCells (s3.heap.push { cls := .type "dict", data := .dict #[] }) scope.names }
    generalize hce : compEnvC scope (cellsFrom (C + 1) scope.names (cloFrom X.env.cells scope.names [])) C X.env = ce at *
    have cL : ce.locals = C := by subst hce; rfl
    generalize hs4 : ({ s3 with heap := pushCells (s3.heap.push { cls := .type "dict", data := .dict #[] }) scope.names } : Shared) = s4 at I4 ⊢
    have k4 : ∀ b o, s3.heap.get? b = some o → s4.heap.get? b = some o := fun b o e => by rw [← hs4]; exact pushCells_keeps _ _ _ _ (Heap.get?_push_of_some _ e)
    have k3 : ∀ b o, h2.get? b = some o → s4.heap.get? b = some o := fun b o e => k4 b o (by rw [h3]; exact Heap.get?_push_of_some _ e)
    have qC : q.1 ≠ C := Nat.ne_of_lt (by rw [← hC]; exact Heap.lt_size Pq.1)
    have qS : q.1 ∉ frs X.stack := fun hm => (List.mem_cons.mp (I3.stkSub q.1 hm)).elim Pq.2.2.1 Pq.2.2.2.1
    have I5 := (inv_pin1 I4 (q := q) ⟨k4 _ _ Pq.1, Pq.2.1, by show q.1 ≠ ce.locals; rw [cL]; exact qC, qS, Pq.2.2.2.2⟩).toTry fun _ _ => False
    generalize hY : (X.blk s3 H3 scope ce fp).tr ((X.blk s3 H3 scope ce fp).pn ++ [q]) (fun _ _ => False) = Y at I5
    obtain ⟨gg, gt, ge⟩ := gHg Y (by rw [← hY]) (by rw [← hY]) (by rw [← hY]) (by rw [← hY]) (by rw [← hY]) (by rw [← hY]) (by rw [← hY, ← hce]) (by rw [← hY]) (by rw [← hY]; exact List.mem_append_right _ (List.mem_singleton.mpr rfl))
    have qY : q ∈ Y.pn := by rw [← hY]; exact List.mem_append_right _ (List.mem_singleton.mpr rfl)
    have yK : Y.K = X.K := by rw [← hY]
    have yA : Y.A = X.A := by rw [← hY]
    have yP : Y.prog = X.prog := by rw [← hY]
    have yW : Y.w = X.w := by rw [← hY]
    have yE : Y.env = ce := by rw [← hY]
    have yx : ∀ e s, ¬ Y.xe e s := fun e s h => by rw [← hY] at h; exact h
    have hotY : HotP Y q := by show L2H.Hot1 Y.A q; rw [yA]; exact hot
    have qf : ∀ b ∈ fp, q.1 ≠ b := fun b hb => (f3 b hb).1.2.2.2.2.2 q (List.mem_append_left _ hq)
    have stat : ∀ {σ' : L2.St} {H' : Hp} {s' : Shared}, Inv Y [] σ' H' s' → (∀ b ∈ fp, H' b = none) → ∀ b ∈ fp, FpOk Y [] H' b := fun {σ' H' s'} J hn b hb => by
      have J' := J.ok
      rw [← hY] at J' ⊢
      refine ⟨hn b hb, (J'.exf b hb).1, J'.exfs b hb, .inl hb, fun x c e => (J'.exf b hb).2 x c e, fun p hp => ?_⟩
      have : p = q := by simpa using hp
      rw [this]; exact qf b hb
    have st4 : LczI n0 a b 0 s4.heap := ⟨k3 _ _ z2, k3 _ _ ti2, ⟨_, _, k3 _ _ to2⟩, l1.at fun o e => k3 _ o e, l2.at fun o e => k3 _ o e⟩
    have loop : codeAny (model X.prog X.w) X.A (.compLoop (.ListComp elt [⟨.Tuple elts kk tpos, .Call (.Name "zip" p) [e1, e2] [] zp, ifs, 0⟩] scope pos) 0 (.ref (n0 + 4)) (.ref L) ce) (compPost (model X.prog X.w) X.A X.xe (some (assign (.Name y py) X.env)) (fun _ s' => SP X pins D .next s') (.ref L) C) s4 := by
      refine compLoop_any (fun n s' => ∃ i H', Inv Y [] (wipe σ (own.map (·.2))) H' s' ∧ LczI n0 a b i s'.heap ∧ (∀ b ∈ fp, H' b = none) ∧ Pv i H' ∧ n + i = xs.length) ?_ xs.length ⟨0, H3, I5, st4, fun b hb => (f3 b hb).1.1, p0, rfl⟩
      rintro n s5 ⟨i, H5, I6, ⟨g1, g2, ⟨u, v, g3⟩, g4, g5⟩, n5, pv, hni⟩
      obtain ⟨sx5, sy5⟩ := pl i H5 pv
      rw [← yK] at sx5 sy5
      obtain ⟨jts, rj, pj, _⟩ := I6.list sx5
      obtain ⟨jts2, rj2, pj2, _⟩ := I6.list sy5
      have ljx := rj.length
      have ljy := rj2.length
      have hotS := hotY.at I6 (List.mem_append_left _ qY)
      rw [yA] at hotS
      by_cases hlt : i < xs.length
      · obtain ⟨xv, hxv⟩ : ∃ xv, xs[i]? = some xv := ⟨_, List.getElem?_eq_getElem hlt⟩
        obtain ⟨yv, hyv⟩ : ∃ yv, ys[i]? = some yv := ⟨_, List.getElem?_eq_getElem (by omega)⟩
        obtain ⟨ux, hux, rux⟩ := rj.get hxv
        obtain ⟨uy, huy, ruy⟩ := rj2.get hyv
        refine wpAny_pyNext_zip_item AP g1 g2 g3 g4 g5 pj.isList pj2.isList (x := ux) (y := uy) (by simpa using hux) (by simpa using huy) fun h6 z6 to6 m1 m2 hT6 sz6 kk6 => ?_
        refine wpAny_letOwnedTupleGo_zip (s := { s5 with heap := h6 }) z6 fun h7 z7 sb7 => ?_
        generalize hTT : s5.heap.objs.size = TT at *
        have ltT : ∀ b ∈ fp, b < TT := fun b hb => by
          rw [← hTT]
          rcases (mfp b).mp hb with z | z | z | z | z <;> rw [z]
          · exact Heap.lt_size g1
          · exact Heap.lt_size g2
          · exact Heap.lt_size g3
          · obtain ⟨_, e, _⟩ := g4; exact Heap.lt_size e
          · obtain ⟨_, e, _⟩ := g5; exact Heap.lt_size e
        have zT : n0 + 4 < TT := ltT _ ((mfp _).mpr (.inl rfl))
        have hT7 : h7.get? TT = some { cls := .type "tuple", data := .seq #[ux, uy] } := (sb7.2 _ (Nat.ne_of_gt zT)).trans hT6
        have new7 : ObjOk Y.prog Y.w (upd H5 TT (.tup [xv, yv])) h7 TT (.tup [xv, yv]) := ⟨by show 2 ≤ sizeLine; decide, [ux, uy], .cons rux (.cons ruy .nil), ⟨_, hT7, rfl, _, rfl⟩⟩
        have I7 : Inv Y [] (wipe σ (own.map (·.2))) (upd H5 TT (.tup [xv, yv])) { s5 with heap := h7 } :=
          I6.turnedNew (t' := s5.toks) (ch := fp) (fun c o hb e => (sb7.2 c fun z => hb ((mfp c).mpr (.inl z))).trans (kk6 c o (fun z => hb ((mfp c).mpr (.inl z))) (fun z => hb ((mfp c).mpr (.inr (.inr (.inl z))))) (fun z => hb ((mfp c).mpr (.inr (.inr (.inr (.inl z)))))) (fun z => hb ((mfp c).mpr (.inr (.inr (.inr (.inr z)))))) e)) (stat I6 n5) (Nat.le_of_eq hTT) new7
        have hTn : H5 TT = none := I6.hok.fresh (Nat.le_of_eq hTT)
        have n7 : ∀ b ∈ fp, upd H5 TT (.tup [xv, yv]) b = none := fun b hb => by rw [upd_ne (Nat.ne_of_lt (ltT b hb))]; exact n5 b hb
        have st7 : LczI n0 a b (i + 1) h7 := ⟨z7, (sb7.2 _ AP.TIz).trans (kk6 _ _ AP.TIz AP.TITO AP.TIi1 AP.TIi2 g2), ⟨_, _, (sb7.2 _ AP.TOz).trans to6⟩, m1.at fun o e => (sb7.2 _ AP.i1z).trans e, m2.at fun o e => (sb7.2 _ AP.i2z).trans e⟩
        have obj7 : ∀ b ∈ fp, ∃ o, h7.get? b = some o ∧ ∀ v, o.data ≠ .cell v := fun b hb => by
          rcases (mfp b).mp hb with z | z | z | z | z <;> rw [z]
          · exact ⟨_, st7.1, fun v q => nomatch q⟩
          · exact ⟨_, st7.2.1, fun v q => nomatch q⟩
          · obtain ⟨_, _, e⟩ := st7.2.2.1; exact ⟨_, e, fun v q => nomatch q⟩
          · obtain ⟨o, e, _, d⟩ := st7.2.2.2.1; exact ⟨o, e, fun v q => by rw [d] at q; cases q⟩
          · obtain ⟨o, e, _, d⟩ := st7.2.2.2.2; exact ⟨o, e, fun v q => by rw [d] at q; cases q⟩
        have I8 := I7.pinned (stat I7 n7) obj7
        have W1 := gg.run _ _ _ _ (.ref TT) (.ref TT) _ I8 rfl (ps i xv yv TT H5 hxv hyv pv hTn)
        rw [yP, yW, yA, yE] at W1
        refine wpAny_mono W1 (fun _ s8 ⟨σ8, H8, I9, hw8, q8⟩ => ?_) fun e s h => (yx e s h).elim
        have W2 := gt.run _ s8 σ8 H8 _ I9 q8
        rw [yP, yW, yA, yE] at W2
        refine wpAny_mono W2 (fun c s9 ⟨H9, I10, q9⟩ => ?_) fun e s h => (yx e s h).elim
        -- the turn's end
        have fin : ∀ {s' : Shared} {H' : Hp}, Inv Y ([] ++ pinsAt fp h7) σ8 H' s' → Pv (i + 1) H' → ∃ m, m < n ∧ ∃ i H', Inv Y [] (wipe σ (own.map (·.2))) H' s' ∧ LczI n0 a b i s'.heap ∧ (∀ b ∈ fp, H' b = none) ∧ Pv i H' ∧ m + i = xs.length := fun {s' H'} J p' => by
          have pin' : ∀ b ∈ fp, ∀ o, h7.get? b = some o → s'.heap.get? b = some o ∧ H' b = none := fun b hb o e =>
            let z := J.pin (b, o) (List.mem_append_right _ (List.mem_append_right _ (mem_pinsAt hb e)))
            ⟨z.1, z.2.1⟩
          refine ⟨n - 1, by omega, i + 1, H', (J.unpinned (pins := [])).weak (by rw [← hw8, wipe_length]) (fun j v e => by rw [← hw8] at e; exact (wipe_some e).1), ?_, fun b hb => ?_, p', by omega⟩
          · have at_ : ∀ b, b ∈ fp → ∀ o, h7.get? b = some o → s'.heap.get? b = some o := fun b hb o e => (pin' b hb o e).1
            obtain ⟨t1, t2, ⟨_, _, t3⟩, t4, t5⟩ := st7
            exact ⟨at_ _ ((mfp _).mpr (.inl rfl)) _ t1, at_ _ ((mfp _).mpr (.inr (.inl rfl))) _ t2, ⟨_, _, at_ _ ((mfp _).mpr (.inr (.inr (.inl rfl)))) _ t3⟩, t4.at fun o e => at_ _ ((mfp _).mpr (.inr (.inr (.inr (.inl rfl))))) o e, t5.at fun o e => at_ _ ((mfp _).mpr (.inr (.inr (.inr (.inr rfl))))) o e⟩
          · obtain ⟨o, e, _⟩ := obj7 b hb
            exact (pin' b hb o e).2
        cases c with
        | false =>
          simp only [Bool.false_eq_true, if_false] at q9 ⊢
          exact fin I10 q9
        | true =>
          simp only [if_true] at q9 ⊢
          have W3 := ge.run _ s9 σ8 H9 _ I10 q9
          rw [yP, yW, yA, yE] at W3
          refine wpAny_mono W3 (fun zz s10 ⟨zv, H10, I11, r11, acc, hL10, hz10, nx⟩ => ?_) fun e s h => (yx e s h).elim
          have W4 := app_ok (E := notedBy (model X.prog X.w) X.A ce fun e s' => compPost (model X.prog X.w) X.A X.xe (some (assign (.Name y py) X.env)) (fun _ s' => SP X pins D .next s') (.ref L) C (.error e) s') (Q := fun _ s5 => ∃ m, m < n ∧ ∃ i H', Inv Y [] (wipe σ (own.map (·.2))) H' s5 ∧ LczI n0 a b i s5.heap ∧ (∀ b ∈ fp, H' b = none) ∧ Pv i H' ∧ m + i = xs.length) I11 hL10 hz10 r11 fun s11 I12 => fin I12 nx
          rw [yP, yW, yA] at W4
          exact W4
      · have hn0 : n = 0 := by omega
        refine zipEndHot hotS (qf _ ((mfp _).mpr (.inl rfl))) (qf _ ((mfp _).mpr (.inr (.inr (.inr (.inl rfl)))))) AP g1 g2 g3 g4 pj.isList (by simp; omega) fun h6 kk6 => ?_
        have I7 : Inv Y [] (wipe σ (own.map (·.2))) H5 { s5 with heap := h6 } := I6.turnedL (t' := s5.toks) (ch := fp) (fun c o hb e => kk6 c o (fun z => hb ((mfp c).mpr (.inl z))) (fun z => hb ((mfp c).mpr (.inr (.inr (.inr (.inl z)))))) e) (stat I6 n5)
        have I8 : Inv X pins σ H5 { s5 with heap := h6 } := by
          have J := I7
          rw [← hY] at J
          exact I3.call' (ch := fp) J.os J.base J.hok J.bare fun b hb => ⟨(f3 b hb).1.2.2.2.1, (f3 b hb).1.2.1, (f3 b hb).1.2.2.2.2.1, (f3 b hb).1.2.2.2.2.2⟩
        obtain ⟨m, hnm, _⟩ := I7.loc
        rw [yE, cL] at hnm
        have nC : H5 C = none := by have z := I7.free; rw [yE, cL] at z; exact z
        obtain ⟨w0, w1, w2, w3, w4, w5⟩ := I3.fpOk (b := C) (Nat.le_of_eq hC) nC
        refine wpAny_assign_Name (store_ok2 (v := V.ref L) I8 hN hy (.inl hyl) rfl (fun s7 I9 ⟨c, sb, hc⟩ => ⟨m, hnm.sameBut sb ?_, fun h8 sb8 => ⟨_, H5, I9.turned (t' := s7.toks) (fun b o hb e => (sb8.2 b hb).trans e) w0 w1 w3 w4 w5, pd H5 ?_⟩⟩) (.inr hyl))
        · rcases hc with z | z
          · rw [z]; exact w1
          · exact fun e => w4 y c z e.symm
        · rw [show xs.length = i by omega]; exact pv
    exact codeAny_compStart_list loop (wpAny_pyIter_zip st4.1 loop)
  refine wpAny_bind ?_
  change wpAny _ X.A (do let _ ← comprehension _ scope X.env _ (newList []) false (eval _ X.env) (some (assign (.Name y py) X.env))) _ _ s
  exact wpAny_bind (thn body fun _ s' hq => wpAny_pure (wpAny_pure hq))
end VC

set_option Elab.async false
set_option linter.all false
set_option maxRecDepth 100000
set_option maxHeartbeats 4000000
/-! ZD0: isinstance of an exception that may have fields. -/
namespace VC
open PySem PySem.Spec PyProof.Rows L2
section
variable {prog : Program} {w : World} {A : Around} {E : Value → Shared → Prop} {s : Shared} {K : PySem.W.Frag} {x D : Addr} {ox : Obj} {od : Option Obj}
open PySem.W in
theorem findObj_dataG {C : Addr} {name : Str} {a g : Value} (hc : (clsIn K C).isSome = true) (ha : findIn K (.ref C) name = some (some a)) (hg : specialIn K a "__get__" = some (some g)) (ht : takesIn K a = some true) : findObj K C od name = some (.bind g a) := by
  obtain ⟨cd, hc⟩ := Option.isSome_iff_exists.mp hc
  unfold findObj
  rw [hc, Option.bind_some, ha, Option.bind_some]
  simp [hg, ht]
open PySem.W in
theorem kin_classG {Q : Option Value → Shared → Prop} (C : ExcC K D) (X : K.In s.heap) (I : InstAt s.heap x ox D od) (h : Q (some (.ref D)) { s with toks := s.toks + 1 }) : wpAny (model prog w) A (getAttr? (.ref x) "__class__") Q E s := by
  have hf : findObj K D od "__class__" = some (.bind (.builtin "getset_descriptor.__get__") (.builtin "object.__class__")) := findObj_dataG (by obtain ⟨cd, hc, _⟩ := any_some C.hd; rw [hc]; rfl) C.ha C.hn C.ht
  obtain ⟨hp, g, d, t, os⟩ := s
  have L0 := I.type (M := model prog w)
  have L1 := looks_findIn (M := model prog w) X C.hg
  have L2 := looks_findIn (M := model prog w) X C.hk
  have L3 := looks_find (M := model prog w) X I hf
  have sub : Looks (model prog w) hp (isInstance (.ref x) (.type "BaseException")) true := L0.andThen (looks_subIn X C.hs)
  have hx0 : (false && onTheHeap (Value.builtin "BaseException.__getattribute__")) = false := rfl
  have hx2 : (Value.builtin "BaseException.__getattribute__" == Value.builtin "object.__getattribute__") = false := by decide +kernel
  have hx1 : (onTheHeap (Value.ref D) && Value.builtin "BaseException.__getattribute__" == Value.builtin "object.__getattribute__") = false := by rw [hx2]; rfl
  unfold getAttr? getAttrBy? getAttrBy
  refine wpAny_bind (wpAny_mkText (wpAny_bind (wpAny_attempt (wpAny_holding (wpAny_bind (L0.at (wpAny_bind (L1.at ?_))))))))
  show wpAny _ _ (if (onTheHeap (Value.ref D) && Value.builtin "BaseException.__getattribute__" == Value.builtin "object.__getattribute__") = true then _ else _) _ _ _
  rw [hx1, if_neg Bool.false_ne_true]
  unfold getAttrByItsOwn hookBefore
  refine wpAny_bind ?_
  rw [if_pos (show onTheHeap (Value.ref D) = true from rfl)]
  refine L2.at ?_
  refine wpAny_bind (wpAny_attempt (wpAny_holding ?_))
  unfold callGetattribute
  rw [hx0, if_neg Bool.false_ne_true]
  unfold boundAndCalled
  rw [PySem.F.excAttr_ValueError.ga.bind (.ref x)]
  refine wpAny_bind (wpAny_pure ?_)
  show wpAny _ _ (call (.builtin "BaseException.__getattribute__") [.ref x, .str "__class__" t]) _ _ _
  refine wpAny_call (codeAny_call_builtin PySem.F.excAttr_ValueError.ga.plain PySem.F.entry_bexc_ga ?_)
  refine @check_slot (model prog w) _ _ ⟨hp, g, d, t + 1, os⟩ "BaseException.__getattribute__" "BaseException" "__getattribute__" (.ref x) [.str "__class__" t] [] _ (by decide +kernel) (by decide +kernel) sub (PySem.F.args_bexc_ga (.ref x) (.str "__class__" t)) ?_
  unfold Builtin.«object.__getattribute__»
  refine wpAny_bind (wpAny_of_eq (a := ((Value.ref x : Value), [Value.str "__class__" t])) (by first | rfl | (simp only [slotArgs]; rfl)) ?_)
  refine wpAny_bind (wpAny_pure (wpAny_bind (L0.at (wpAny_bind (L3.at ?_)))))
  show wpAny _ _ (holding [Value.builtin "object.__class__"] (call (.builtin "getset_descriptor.__get__") [.builtin "object.__class__", .ref x, .ref D]) >>= ret) _ _ _
  refine wpAny_bind (wpAny_holding (wpAny_call (class_get (s := ⟨hp, g, d, t + 1, os⟩) (ox := ox) (od := od) X I C.hm ?_)))
  refine wpAny_pure ?_
  show wpAny _ _ (handedOut (.ref D)) _ _ _
  rw [handedOut_of (v := .ref D) rfl]
  first
    | exact wpAny_pure (wpAny_pure h)
    | exact wpAny_pure h
    | exact wpAny_pure (wpAny_bind (wpAny_pure (wpAny_pure h)))
open PySem.W in
theorem kitx_excG (C : ExcC K D) : KitX K (.ref x) (.ref D) (fun h => ∃ od, InstAt h x ox D od) where
  ty := fun _ _ _ ⟨_, I⟩ => I.type
  it := fun _ _ X _ => by
    obtain ⟨cdD, hcD, _⟩ := any_some C.hd
    unfold clsIn at hcD
    split at hcD
    · rename_i c' d' cd' sl' ho
      intro A' Q' E' s' k q
      unfold isType loadHead
      exact wpAny_bind (wpAny_loadPart (k _ _ (X _ _ ho)) (wpAny_pure q))
    · cases hcD
  ne := fun h tp dd its n sl X htp => by
    obtain ⟨cdD, hcD, _⟩ := any_some C.hd
    refine Bool.eq_false_iff.mpr fun q => ?_
    have e : D = tp := Value.ref.inj (beq_iff_eq.mp q)
    subst e
    unfold clsIn at hcD
    split at hcD
    · rename_i c' d' cd' sl' ho
      have z := (X _ _ ho).symm.trans htp
      cases z
    · cases hcD
  ca := fun X ⟨_, I⟩ k => kin_classG C X I k
end
/-- the exception's dict stands -/
def HasD (d : Option Addr) (H : Hp) : Prop := ∀ dd, d = some dd → ∃ fs, H dd = some (.xd fs)
theorem HasD.non {H : Hp} : HasD none H := fun _ e => nomatch e
theorem HasD.new {d : Option Addr} {H H' : Hp} (h : HasD d H) (n : New H H') : HasD d H' := fun dd e => by
  obtain ⟨fs, hf⟩ := h dd e
  exact ⟨fs, n dd _ hf⟩
theorem HasD.u {d : Option Addr} {H : Hp} {L : Addr} (h : HasD d H) (hL : H L = none) (o : HO) : HasD d (upd H L o) := h.new (New.upd hL)
end VC

set_option Elab.async false
set_option linter.all false
set_option maxRecDepth 100000
set_option maxHeartbeats 4000000
/-! ZD: the name of an exception, told by a def that is called where it is handled. -/
namespace VC
open PySem PySem.Spec PyProof.Rows L2
/-- isinstance(e, T): slot 0 holds the exception at a -/
def tIs (a : Addr) (d : Option Addr) (b : Bool) : TE := fun σ H Q => σ[0]? = some (some (.ref a)) ∧ HasD d H ∧ Q (.bl b) H
section
variable {X : Cx} {q : Addr × Obj} {D : Addr} {d : Option Addr}
theorem call_isP {c : V} {cv : Value} {b : Bool} (hq : q ∈ X.pn) (C : ExcC X.K D) (hz : Zc (.ref D) d q.2) (hf : ∃ vs, q.2.data = .fields vs) (hcv : ∀ u, RelV c u → u = cv) (e : PySem.W.kitOne X.K (.ref D) cv = some b) :
    CallR X (.builtin "isinstance") fun xs H Q => xs = [.ref q.1, c] ∧ HasD d H ∧ Q (.bl b) H := by
  intro pins s σ H xs us Q I r ⟨hx, hD, h⟩
  subst hx
  obtain ⟨u1, u2, rfl, r1, r2⟩ := vals2 r
  cases r1
  have ec := hcv _ r2
  subst ec
  have hget := (I.pin q (List.mem_append_left _ hq)).1
  obtain ⟨vs, hv⟩ := hf
  have J : ∃ od, PySem.W.InstAt s.heap q.1 q.2 D od := by
    obtain ⟨a, ⟨oc, od, oda, osl⟩⟩ := q
    obtain ⟨h1, h2⟩ := hz
    dsimp only at h1 h2 hv hget
    subst h1 h2 hv
    cases od with
    | none => exact ⟨none, hget, rfl, rfl, trivial⟩
    | some dd =>
      obtain ⟨fs, hf⟩ := hD dd rfl
      obtain ⟨mA, ⟨o, es, ep, ho, _⟩, _⟩ := (show ObjOk X.prog X.w H s.heap dd (.xd fs) from I.hok dd _ hf)
      exact ⟨some o, hget, rfl, rfl, ho⟩
  exact PySem.W.kia_one (kitx_excG C) I.kIn J e (fun z => nomatch z) fun tk => ⟨.bl b, H, I.kept (t' := tk) fun _ _ z => z, rfl, h⟩
theorem pe_is {x : Str} {p1 p2 p3 p4 : Pos} {c : V} {cv : Value} {b : Bool} (hq : q ∈ X.pn) (C : ExcC X.K D) (hz : Zc (.ref D) d q.2) (hf : ∃ vs, q.2.data = .fields vs) (hcv : ∀ u, RelV c u → u = cv) (he : PySem.W.kitOne X.K (.ref D) cv = some b)
    (hN : X.N[0]? = some ("_law_e" : Str)) (hv : X.env.scope.names.lookup ("_law_e" : Str) = some .local) (hg : Gl X "isinstance") (hm : X.mg "isinstance" = none) (hx : PE X (.Name x p3) (tC c)) :
    PE X (.Call (.Name "isinstance" p1) [.Name "_law_e" p2, .Name x p3] [] p4) (tIs q.1 d b) :=
  PE.imp (pe_callB (call_isP hq C hz hf hcv he) hg hm PyProof.Rows.boot_isinstance (pa_cons (pe_var hN (.inl hv)) (pa_cons hx pa_nil))) fun σ H Q ⟨k1, k2⟩ => ⟨_, k1, rfl, k2⟩
end
def exWords : List Str := ["Chain", "Stage", "Signal", "Level", "Pair", "Number", "Outputs", "Place", "Seen", "Undo", "Many", "Text"]
/-- the words of the classes that fit -/
def exPick : List Str → List Bool → List Str
  | w :: ws, b :: bs => if b = true then w :: exPick ws bs else exPick ws bs
  | _, _ => []
theorem exPick_len : ∀ (ws : List Str) (bs : List Bool), (exPick ws bs).length ≤ ws.length
  | [], _ => by simp [exPick]
  | w :: ws, [] => by simp [exPick]
  | w :: ws, b :: bs => by
    have := exPick_len ws bs
    unfold exPick; split <;> simp <;> omega
theorem exPick_snoc : ∀ {ws : List Str} {bs : List Bool} {i : Nat} {w : Str} {c : Bool}, ws[i]? = some w → bs[i]? = some c → exPick (ws.take (i + 1)) (bs.take (i + 1)) = if c = true then exPick (ws.take i) (bs.take i) ++ [w] else exPick (ws.take i) (bs.take i)
  | [], _, _, _, _, h, _ => by simp at h
  | _ :: _, [], _, _, _, _, h => by simp at h
  | v :: ws, b :: bs, 0, w, c, h, k => by
    simp at h k; subst h k
    simp [exPick]
  | v :: ws, b :: bs, i + 1, w, c, h, k => by
    have ih := exPick_snoc (ws := ws) (bs := bs) (i := i) (w := w) (c := c) (by simpa using h) (by simpa using k)
    simp only [List.take_succ_cons, exPick, ih]
    cases b <;> cases c <;> simp
theorem th3 : 3 ≤ sizeLine := by decide
section
variable {X : Cx} {q : Addr × Obj} {dq : Option Addr}
theorem nameBody {p1 p2 p3 p4 p5 p6 p7 p8 p9 p10 p11 p12 p13 p14 p15 p16 p17 p18 p19 p20 p21 p22 p23 p24 p25 p26 p27 p28 p29 p30 p31 p32 p33 p34 p35 p36 p37 p38 p39 p40 p41 p42 p43 p44 p45 p46 p47 p48 p49 p50 p51 p52 p53 p54 : Pos} {j1 j2 j3 j4 j5 j6 j7 j8 j9 j10 j11 j12 j13 j14 j15 kk : Nat} {f1 f2 f3 f4 f5 f6 f7 f8 f9 f10 f11 f12 f13 : Expr} {a1 a2 a3 a4 a5 a6 a7 a8 a9 a10 a11 a12 a13 : List Expr} {d1 d2 d3 d4 d5 d6 d7 d8 d9 d10 d11 d12 d13 : Pos} {sc : Scope} {b1 b2 b3 b4 b5 b6 b7 b8 b9 b10 b11 b12 : Bool}
    (hot : HotP X q) (hq : q ∈ X.pn) (hN : X.N = (["_law_e", "_law_matching", "_law_words", "_law_found", "_law_word", "_law_good"] : List Str))
    (n1 : X.env.scope.names.lookup ("_law_matching" : Str) = some .local) (n2 : X.env.scope.names.lookup ("_law_words" : Str) = some .local) (n3 : X.env.scope.names.lookup ("_law_found" : Str) = some .local)
    (c1 : sc.names.lookup ("_law_word" : Str) = some .local) (c2 : sc.names.lookup ("_law_good" : Str) = some .local) (ok : BlkOk X.N X.env.scope sc [("_law_word", 4), ("_law_good", 5)])
    (hsw : swapsWith (.ListComp (.Name "_law_word" p1) [⟨.Tuple [.Name "_law_word" p2, .Name "_law_good" p3] kk p4, .Call (.Name "zip" p5) [.Name "_law_words" p6, .Name "_law_matching" p7] [] p8, [.Name "_law_good" p9], 0⟩] sc p10) (some (.Name "_law_found" p11)) p12.line X.env = pure true)
    (hz : Gl X "zip") (hm : X.mg "zip" = none) (hline : (p47.endLine == p49.line) = true)
    (h1 : PE X (.Call f1 a1 [] d1) (tIs q.1 dq b1)) (h2 : PE X (.Call f2 a2 [] d2) (tIs q.1 dq b2)) (h3 : PE X (.Call f3 a3 [] d3) (tIs q.1 dq b3)) (h4 : PE X (.Call f4 a4 [] d4) (tIs q.1 dq b4)) (h5 : PE X (.Call f5 a5 [] d5) (tIs q.1 dq b5)) (h6 : PE X (.Call f6 a6 [] d6) (tIs q.1 dq b6)) (h7 : PE X (.Call f7 a7 [] d7) (tIs q.1 dq b7)) (h8 : PE X (.Call f8 a8 [] d8) (tIs q.1 dq b8)) (h9 : PE X (.Call f9 a9 [] d9) (tIs q.1 dq b9))
    (h10 : PE X (.Call f10 a10 [] d10) (tIs q.1 dq b10)) (h11 : PE X (.Call f11 a11 [] d11) (tIs q.1 dq b11)) (h12 : PE X (.Call f12 a12 [] d12) (tIs q.1 dq b12)) (h13 : PE X (.Call f13 a13 [] d13) (tIs q.1 dq true)) {H : Hp} {Q : VK} (hD : HasD dq H)
    (hj1 : ((exPick exWords [b1, b2, b3, b4, b5, b6, b7, b8, b9, b10, b11, b12]).map (·.length)).sum + (exPick exWords [b1, b2, b3, b4, b5, b6, b7, b8, b9, b10, b11, b12]).length * ("" : Str).length ≤ 16777216)
    (hj2 : (Txt.join ("" : Str) (exPick exWords [b1, b2, b3, b4, b5, b6, b7, b8, b9, b10, b11, b12])).length + ("+" : Str).length ≤ sizeLine)
    (fin : ∀ H', New H H' → Q (.str (Txt.join ("" : Str) (exPick exWords [b1, b2, b3, b4, b5, b6, b7, b8, b9, b10, b11, b12]) ++ "+")) H') :
    ∃ t, PSs X [.Assign [.Name "_law_matching" p13] (.List [(.Call f1 a1 [] d1), (.Call f2 a2 [] d2), (.Call f3 a3 [] d3)] p14) p15,
      .Assign [.Name "_law_matching" p16] (.BinOp (.Name "_law_matching" p17) .Add (.List [(.Call f4 a4 [] d4), (.Call f5 a5 [] d5), (.Call f6 a6 [] d6)] p18) p19) p20,
      .Assign [.Name "_law_matching" p21] (.BinOp (.Name "_law_matching" p22) .Add (.List [(.Call f7 a7 [] d7), (.Call f8 a8 [] d8), (.Call f9 a9 [] d9)] p23) p24) p25,
      .Assign [.Name "_law_matching" p26] (.BinOp (.Name "_law_matching" p27) .Add (.List [(.Call f10 a10 [] d10), (.Call f11 a11 [] d11), (.Call f12 a12 [] d12)] p28) p29) p30,
      .Assign [.Name "_law_words" p31] (.List [.Constant (.str "Chain") j1 p32, .Constant (.str "Stage") j2 p33, .Constant (.str "Signal") j3 p34, .Constant (.str "Level") j4 p35, .Constant (.str "Pair") j5 p36, .Constant (.str "Number") j6 p37, .Constant (.str "Outputs") j7 p38, .Constant (.str "Place") j8 p39, .Constant (.str "Seen") j9 p40, .Constant (.str "Undo") j10 p41, .Constant (.str "Many") j11 p42, .Constant (.str "Text") j12 p43] p44) p45,
      .Assign [.Name "_law_found" p11] (.ListComp (.Name "_law_word" p1) [⟨.Tuple [.Name "_law_word" p2, .Name "_law_good" p3] kk p4, .Call (.Name "zip" p5) [.Name "_law_words" p6, .Name "_law_matching" p7] [] p8, [.Name "_law_good" p9], 0⟩] sc p10) p12,
      .Return (some (.BinOp (.Call (.Attribute (.Constant (.str ("" : Str)) j13 p46) "join" p47) [.Name "_law_found" p48] [] p49) .Add (.IfExp (.Call f13 a13 [] d13) (.Constant (.str "+") j14 p50) (.Constant (.str ("" : Str)) j15 p51) p52) p53)) p54] t ∧ t { nx := fun _ H' => Q .non H', rt := Q } (L2.start X.N [.ref q.1]) H := by
  have nd : X.N.Nodup := by rw [hN]; decide
  have N1 : X.N[1]? = some ("_law_matching" : Str) := by rw [hN]; rfl
  have N2 : X.N[2]? = some ("_law_words" : Str) := by rw [hN]; rfl
  have N3 : X.N[3]? = some ("_law_found" : Str) := by rw [hN]; rfl
  have comp : ∀ (Y : Cx) (C : Addr) (cl : List (Str × Addr)), Y.prog = X.prog → Y.w = X.w → Y.K = X.K → Y.mg = X.mg → Y.A = X.A → Y.N = X.N → Y.env = compEnvC sc cl C X.env → Y.fn = (fun x => sc.names.lookup x == some .cell) → q ∈ Y.pn →
      PG Y (.Tuple [.Name "_law_word" p2, .Name "_law_good" p3] kk p4) (gTup X.K 2 (gCons (gName 4) (gCons (gName 5) gNil))) ∧ PTs Y [.Name "_law_good" p9] (tB (tVar 5)) ∧ PE Y (.Name "_law_word" p1) (tVar 4) := by
    intro Y C cl eP eW eK eM eA eN eE eF hp
    have l1 : Y.env.scope.names.lookup ("_law_word" : Str) = some .local := by rw [eE]; exact lookup_relS_keep (by decide) c1
    have l2 : Y.env.scope.names.lookup ("_law_good" : Str) = some .local := by rw [eE]; exact lookup_relS_keep (by decide) c2
    have m4 : Y.N[4]? = some ("_law_word" : Str) := by rw [eN, hN]; rfl
    have m5 : Y.N[5]? = some ("_law_good" : Str) := by rw [eN, hN]; rfl
    have nY : Y.N.Nodup := by rw [eN]; exact nd
    have hY : HotP Y q := by show L2H.Hot1 Y.A q; rw [eA]; exact hot
    refine ⟨?_, pts_one (pt_val (pe_var m5 (.inl l2))), pe_var m4 (.inl l1)⟩
    have := pg_tupH (pos := p4) (k := kk) (n := 2) hY hp (pgs_cons (pg_name (pos := p2) nY m4 (.inl l1) (.inr l1)) (pgs_cons (pg_name (pos := p3) nY m5 (.inl l2) (.inr l2)) pgs_nil))
    rw [eK] at this
    exact this
  refine ⟨_, pss_cons (ps_set nd N1 (.inl n1) (pe_lst (pa_cons h1 (pa_cons h2 (pa_cons h3 pa_nil)))) (hf := .inr n1))
    (pss_cons (ps_set nd N1 (.inl n1) (pe_op op_cat (pe_var N1 (.inl n1)) (pe_lst (pa_cons h4 (pa_cons h5 (pa_cons h6 pa_nil))))) (hf := .inr n1))
    (pss_cons (ps_set nd N1 (.inl n1) (pe_op op_cat (pe_var N1 (.inl n1)) (pe_lst (pa_cons h7 (pa_cons h8 (pa_cons h9 pa_nil))))) (hf := .inr n1))
    (pss_cons (ps_set nd N1 (.inl n1) (pe_op op_cat (pe_var N1 (.inl n1)) (pe_lst (pa_cons h10 (pa_cons h11 (pa_cons h12 pa_nil))))) (hf := .inr n1))
    (pss_cons (ps_set nd N2 (.inl n2) (pe_lst (pa_cons pe_str (pa_cons pe_str (pa_cons pe_str (pa_cons pe_str (pa_cons pe_str (pa_cons pe_str (pa_cons pe_str (pa_cons pe_str (pa_cons pe_str (pa_cons pe_str (pa_cons pe_str (pa_cons pe_str pa_nil))))))))))))) (hf := .inr n2))
    (pss_cons (ps_lcz hot hq nd N3 n3 hsw hz hm (pa_cons (pe_var N2 (.inl n2)) (pa_cons (pe_var N1 (.inl n1)) pa_nil)) ok comp)
    (pss_one (ps_ret (pe_op op_add_str (pe_join pe_str (pe_var N3 (.inl n3)) (hline := hline)) (pe_ifExp (pt_val h13) pe_str pe_str))))))))), ?_⟩
  have s0 : L2.start X.N [.ref q.1] = [some (.ref q.1), none, none, none, none, none] := by rw [hN]; rfl
  rw [s0]
  refine ⟨rfl, hD, rfl, hD, rfl, hD, th3, fun l1 m1 => ⟨_, rfl, rfl, hD.u m1 _, rfl, hD.u m1 _, rfl, hD.u m1 _, th3, fun l2 m2 => ⟨l1, l2, _, _, rfl, rfl, (upd_ne (ne_of_none upd_same m2)).trans upd_same, upd_same, by show 6 ≤ sizeLine; decide, fun l3 m3 => ?_⟩⟩⟩
  refine ⟨_, rfl, rfl, ((hD.u m1 _).u m2 _).u m3 _, rfl, ((hD.u m1 _).u m2 _).u m3 _, rfl, ((hD.u m1 _).u m2 _).u m3 _, th3, fun l4 m4 => ⟨l3, l4, _, _, rfl, rfl, (upd_ne (ne_of_none upd_same m4)).trans upd_same, upd_same, by show 9 ≤ sizeLine; decide, fun l5 m5 => ?_⟩⟩
  refine ⟨_, rfl, rfl, ((((hD.u m1 _).u m2 _).u m3 _).u m4 _).u m5 _, rfl, ((((hD.u m1 _).u m2 _).u m3 _).u m4 _).u m5 _, rfl, ((((hD.u m1 _).u m2 _).u m3 _).u m4 _).u m5 _, th3, fun l6 m6 => ⟨l5, l6, _, _, rfl, rfl, (upd_ne (ne_of_none upd_same m6)).trans upd_same, upd_same, by show 12 ≤ sizeLine; decide, fun l7 m7 => ?_⟩⟩
  refine ⟨by show 12 ≤ sizeLine; decide, fun l8 m8 => ?_⟩
  obtain ⟨H8, hH8⟩ : ∃ H8, H8 = upd (upd (upd (upd (upd (upd (upd (upd H l1 (.lst [.bl b1, .bl b2, .bl b3])) l2 (.lst [.bl b4, .bl b5, .bl b6])) l3 (.lst ([.bl b1, .bl b2, .bl b3] ++ [.bl b4, .bl b5, .bl b6]))) l4 (.lst [.bl b7, .bl b8, .bl b9])) l5 (.lst (([.bl b1, .bl b2, .bl b3] ++ [.bl b4, .bl b5, .bl b6]) ++ [.bl b7, .bl b8, .bl b9]))) l6 (.lst [.bl b10, .bl b11, .bl b12])) l7 (.lst (([.bl b1, .bl b2, .bl b3] ++ [.bl b4, .bl b5, .bl b6]) ++ [.bl b7, .bl b8, .bl b9] ++ [.bl b10, .bl b11, .bl b12]))) l8 (.lst (exWords.map V.str)) := ⟨_, rfl⟩
  have w8 : New H H8 := by
    rw [hH8]
    exact (((((((New.upd m1).trans (New.upd m2)).trans (New.upd m3)).trans (New.upd m4)).trans (New.upd m5)).trans (New.upd m6)).trans (New.upd m7)).trans (New.upd m8)
  have q8 : H8 l8 = some (.lst (exWords.map V.str)) := by rw [hH8]; exact upd_same
  have q7 : H8 l7 = some (.lst ([b1, b2, b3, b4, b5, b6, b7, b8, b9, b10, b11, b12].map V.bl)) := by rw [hH8]; exact (upd_ne (ne_of_none upd_same m8)).trans upd_same
  clear m8 m7 m6 m5 m4 m3 m2 m1
  generalize hbs : [b1, b2, b3, b4, b5, b6, b7, b8, b9, b10, b11, b12] = bs at q7 fin hj1 hj2
  have lbs : bs.length = 12 := by rw [← hbs]; rfl
  refine ⟨.ref l8, rfl, .ref l7, rfl, l8, l7, exWords.map V.str, bs.map V.bl, rfl, ?_, ?_, by rw [List.length_map, List.length_map, lbs]; rfl, fun L hL => ?_⟩
  · show SqL _ (upd _ l8 _) _ _
    have := q8
    rw [hH8] at this
    exact .inl (.inl this)
  · have := q7
    rw [hH8] at this
    exact .inl (.inl this)
  have hL : H8 L = none := by rw [hH8]; exact hL
  refine ⟨fun i H' => H' L = some (.lst ((exPick (exWords.take i) (bs.take i)).map V.str)) ∧ H' l8 = some (.lst (exWords.map V.str)) ∧ H' l7 = some (.lst (bs.map V.bl)) ∧ New H8 H', ?_, fun i H' p => ⟨.inl (.inl p.2.1), .inl (.inl p.2.2.1)⟩, fun i x y T H' hx hy ⟨p1, p2, p3, p4⟩ hT => ?_, fun H' ⟨p1, p2, p3, p4⟩ => ?_⟩
  · subst hH8
    exact ⟨upd_same, (upd_ne (ne_of_none q8 hL)).trans q8, (upd_ne (ne_of_none q7 hL)).trans q7, New.upd hL⟩
  · have hi : i < 12 := by
      have := (List.getElem?_eq_some_iff.mp hy).1
      rwa [List.length_map, lbs] at this
    obtain ⟨w, hw, rfl⟩ : ∃ w, exWords[i]? = some w ∧ x = .str w := by
      rw [List.getElem?_map] at hx
      obtain ⟨w, h1, h2⟩ := Option.map_eq_some_iff.mp hx
      exact ⟨w, h1, h2.symm⟩
    obtain ⟨c, hc, rfl⟩ : ∃ c, bs[i]? = some c ∧ y = .bl c := by
      rw [List.getElem?_map] at hy
      obtain ⟨w, h1, h2⟩ := Option.map_eq_some_iff.mp hy
      exact ⟨w, h1, h2.symm⟩
    have pk := exPick_snoc hw hc
    have nT : ∀ {b : Addr} {o : HO}, H' b = some o → upd H' T (.tup [.str w, .bl c]) b = some o := fun e => (upd_ne (ne_of_none e hT)).trans e
    refine ⟨T, _, rfl, .inl (.inl upd_same), rfl, _, _, rfl, _, _, rfl, rfl, rfl, _, rfl, c, rfl, ?_⟩
    cases c with
    | false =>
      rw [if_neg (by decide)]
      rw [if_neg (by decide)] at pk
      exact ⟨by rw [pk]; exact nT p1, nT p2, nT p3, p4.trans (New.upd hT)⟩
    | true =>
      rw [if_pos rfl]
      rw [if_pos rfl] at pk
      have L8 : l8 ≠ L := ne_of_none q8 hL
      have L7 : l7 ≠ L := ne_of_none q7 hL
      refine ⟨_, rfl, _, nT p1, ?_, ?_, (upd_ne L8).trans (nT p2), (upd_ne L7).trans (nT p3), fun b o e => ?_⟩
      · have := exPick_len (exWords.take i) (bs.take i)
        rw [List.length_map, List.length_take] at *
        exact Nat.lt_of_le_of_lt (Nat.le_trans this (Nat.min_le_left _ _)) (Nat.lt_of_lt_of_le hi (by decide))
      · rw [pk, List.map_append]; exact upd_same
      · rw [upd_ne (ne_of_none e hL)]; exact nT (p4 b o e)
  · have e12 : exPick (exWords.take 12) (bs.take 12) = exPick exWords bs := by rw [List.take_of_length_le (by decide), List.take_of_length_le (by omega)]
    have p1 : H' L = some (.lst ((exPick exWords bs).map V.str)) := by rw [← e12]; exact p1
    refine ⟨⟨_, rfl⟩, .ref L, rfl, _, _, _, rfl, rfl, .inl (.inl (.inl p1)), ?_, ?_⟩
    · exact hj1
    · refine ⟨rfl, hD.new (w8.trans p4), true, rfl, ?_⟩
      dsimp only
      rw [if_pos rfl]
      exact ⟨_, _, rfl, rfl, hj2, fin H' (w8.trans p4)⟩
end
end VC

set_option Elab.async false
set_option linter.all false
set_option maxRecDepth 100000
set_option maxHeartbeats 4000000
/-! ZE: a lambda called within a try whose suite names the exception. -/
namespace VC
open PySem PySem.Spec PyProof.Rows L2 LamX
/-- the def that names an exception, called where it is handled: nm tells each class's word -/
structure NameOk (P : Program) (w : World) (K : PySem.W.Frag) (mg : Str → Option Value) (base : Heap) (k : Nat) (nm : Addr → Str → Prop) : Prop where
  ex : ∃ (f : Addr) (fd : FuncData), mg "_law_name_of" = some (.ref f) ∧ PySem.W.keepIn K (.ref f) = true ∧ Binds K fd ["_law_e"] [] ∧
    ∀ (CX : CXT) (A : Around) (outer : List Env) (s : Shared) (H : Hp) (args : Args) (Q : VK) (E : XK) (p : Addr × Obj) (C : Addr) (d : Option Addr) (word : Str), L2H.RoomH k A → L2H.Hot1 A p → Zc (.ref C) d p.2 → HasD d H → nm C word → L2H.PinOk outer H s p → Env0 P w K mg base A outer s H →
      BindsTo s fd args ((["_law_e"] : List Str).zip [.ref p.1]) → (∀ H', New H H' → Q (.str word) H') → codeAny (model P w) A (.call (.ref f) args) (CR CX outer P w H s Q E) s
theorem name_run {P : Program} {w : World} {K : PySem.W.Frag} {mg : Str → Option Value} {base : Heap} {k : Nat} {f : Addr} {name qual : Str} {params : Arguments} {body : List Stmt} {scope : Scope} {dV kV doc pm cdv ct oc : Value} {an od : Option Addr} {osl : Array (Option Value)} {N : List Str} {nm : Addr → Str → Prop}
    (lk : K.lookup f = some ⟨oc, od, .func (PySem.W.fnOf name qual params body scope dV kV doc pm an cdv ct), osl⟩) (hcd : PySem.W.codeIn K cdv qual = true) (S : FnScope N ["_law_e"] scope)
    (hbody : ∀ (CX : CXT) (A : Around) (outer : List Env) (s : Shared) (H : Hp) (Q : VK) (E : XK) (p : Addr × Obj) (C : Addr) (d : Option Addr) (word : Str), L2H.Hot1 A p → Zc (.ref C) d p.2 → HasD d H → nm C word → (∀ H', New H H' → Q (.str word) H') →
      ∃ t, PSs (L2H.cxH CX P w K mg base N qual scope f cdv A outer s H E p) body t ∧ t { nx := fun _ H' => Q .non H', rt := Q } (L2.start N [.ref p.1]) H)
    (CX : CXT) (A : Around) (outer : List Env) (s : Shared) (H : Hp) (args : Args) (Q : VK) (E : XK) (p : Addr × Obj) (C : Addr) (d : Option Addr) (word : Str) (hr : L2H.RoomH (k + 1) A) (hot : L2H.Hot1 A p) (hz : Zc (.ref C) d p.2) (hD : HasD d H) (hw : nm C word) (hpin : L2H.PinOk outer H s p) (e0 : Env0 P w K mg base A outer s H)
    (hb : BindsTo s (PySem.W.fnOf name qual params body scope dV kV doc pm an cdv ct) args ((["_law_e"] : List Str).zip [.ref p.1])) (fin : ∀ H', New H H' → Q (.str word) H') : codeAny (model P w) A (.call (.ref f) args) (CR CX outer P w H s Q E) s := by
  have KX : K.In s.heap := e0.mod.kin.keeps fun b o e => (e0.bs b o e).1
  have lim : s.heap.NoLimit := e0.mod.nolimit.keeps fun b o e => (e0.bs b o e).1
  have hkind : ∀ y ∈ (["_law_e"] : List Str).zip [Value.ref p.1], scope.names.lookup y.1 = some .local ∨ (scope.names.lookup y.1 = some .cell ∧ ((cellsFrom (s.heap.objs.size + 1) scope.names []).lookup y.1).isSome = true) := fun ⟨n, v⟩ hy =>
    (S.par n (List.of_mem_zip hy).1).imp id fun q => ⟨q, PySem.W.cellsFrom_some _ _ _ (.inl q)⟩
  refine codeAny_call_function hr.depth (KX _ _ lk) rfl S.co S.gen rfl (PySem.W.codeRec_of KX hcd) (hb _ _ _ _ (wpAny_newFunctionEnv_cells S.kind hkind fun env he s1 x => ?_))
  subst he
  obtain ⟨t, ht, hq⟩ := hbody CX A outer s H Q E p C d word hot hz hD hw fin
  have I : Inv (L2H.cxH CX P w K mg base N qual scope f cdv A outer s H E p) [] (L2.start N [.ref p.1]) H s1 := L2H.inv_startH S hpin e0 rfl (.cons rfl .nil) x
  refine ⟨lim.keeps x.toInCall.keep, codeAny_func (wpAny_mono (ht.run [] s1 _ H _ I hq) (fun fl s' hs => ?_) fun e s' hs => hs)⟩
  have done : ∀ {σ' : L2.St} {H' : Hp} {v : V} {u : Value}, Inv (L2H.cxH CX P w K mg base N qual scope f cdv A outer s H E p) [] σ' H' s' → RelV v u → Q v H' → CE outer P w H s Q u s' := fun {σ' H' v u} J rv q => ⟨v, H', J.os, J.bare, J.base, J.hok, rv, q⟩
  cases fl with
  | ret u => obtain ⟨v, σ', H', J, rv, q⟩ := hs; exact done J rv q
  | next => obtain ⟨σ', H', J, q⟩ := hs; exact done (v := V.non) (u := Value.none) J rfl q
  | brk => obtain ⟨_, _, _, q⟩ := hs; exact q.elim
  | cont => obtain ⟨_, _, _, q⟩ := hs; exact q.elim
/-- _law_name_of(e) in the suite -/
def tNameS (nm : Addr → Str → Prop) (i : Nat) (a : Addr) (cls : Value) (d : Option Addr) : TE := fun σ H Q => σ[i]? = some (some (.ref a)) ∧ ∃ C word, cls = .ref C ∧ HasD d H ∧ nm C word ∧ ∀ H', New H H' → Q (.str word) H'
theorem pe_nameS {X : Cx} {k i : Nat} {a : Addr} {oe : Obj} {cls : Value} {d : Option Addr} {pn : List (Addr × Obj)} {nm : Addr → Str → Prop} {p1 p2 p3 : Pos} (F : NameOk X.prog X.w X.K X.mg X.base k nm) (hr : Room k X.A) (hz : L2N.Zn cls d oe) (hf : ∃ vs, oe.data = .fields vs)
    (hN : X.N[i]? = some ("_law_e" : Str)) (hv : X.env.scope.names.lookup ("_law_e" : Str) = some .local) (hg : Gl X "_law_name_of") :
    PE (X.suite a ((a, oe) :: pn)) (.Call (.Name "_law_name_of" p1) [.Name "_law_e" p2] [] p3) (tNameS nm i a cls d) := by
  obtain ⟨f, fd, hm, hk, hb, run⟩ := F.ex
  refine ⟨fun pins s σ H Q I ⟨hs, C, word, ec, hD, hw, fin⟩ => ?_⟩
  subst ec
  obtain ⟨vs, hvs⟩ := hf
  have hot : L2H.Hot1 (X.A.mark (some (.ref a))) (a, oe) := ⟨rfl, vs, hvs, hz.2.2 vs hvs⟩
  have P1 := I.pin (a, oe) (List.mem_append_left _ List.mem_cons_self)
  refine wpAny_Call_Name_kw (ld_glob (X := X.suite a ((a, oe) :: pn)) I hg hm ?_)
  have ha : PA (X.suite a ((a, oe) :: pn)) [.Name "_law_e" p2] (tCons (tVar i) tNil) := pa_cons (pe_var (X := X.suite a ((a, oe) :: pn)) hN (.inl hv)) pa_nil
  refine PySem.W.callWith_K (h₀ := X.base) I.ok.mod.kin hk (thn (ha.run p3 pins s σ H (fun us H1 => us = [.ref a] ∧ H1 = H) I ⟨_, hs, rfl, rfl⟩) fun us s1 ⟨vs', H1, I1, r, ev, eH⟩ => ?_) rfl rfl
  subst ev eH
  refine ⟨I1.kIn, ?_⟩
  cases r with
  | cons ru rn =>
    cases ru; cases rn
    have P2 := I1.pin (a, oe) (List.mem_append_left _ List.mem_cons_self)
    have hpin : L2H.PinOk X.stack H1 s1 (a, oe) := ⟨P2.1, P2.2.1, fun hm => (List.mem_cons.mp (I1.stkSub a hm)).elim P2.2.2.1 P2.2.2.2.1, P2.2.2.2.2⟩
    have b := hb s1 [.ref a] I1.kIn rfl
    refine wpAny_call (codeAny_mono (run C8.CX0 (X.A.mark (some (.ref a))) X.stack s1 H1 ⟨[.ref a], []⟩ Q C8.E0 (a, oe) C d word ⟨hr.dp, hr.un⟩ hot hz.zc hD hw hpin I1.env0 b fin) fun r s' hq => ?_)
    cases r with
    | error e => exact (show False from hq).elim
    | ok fl =>
      cases fl with
      | ret u => exact I1.after hq
      | next => exact False.elim hq
      | brk => exact False.elim hq
      | cont => exact False.elim hq
end VC

set_option Elab.async false
set_option linter.all false
set_option maxRecDepth 100000
set_option maxHeartbeats 4000000
/-! ZF: a lambda's body with its exceptions; the try. -/
namespace VC
open PySem PySem.Spec PyProof.Rows L2 LamX
/-- the context of the lambda's body -/
abbrev lamN (X : Cx) (A : Around) (outer : List Env) (s : Shared) (H : Hp) (E : XK) (scope : Scope) (f c' : Addr) : Cx :=
  (lamCx X A outer s H E scope f c').tr ([] ++ []) fun e s' => wpAny (model X.prog X.w) (A.deeper (lamEnv X scope s.heap.objs.size f c')) (leaving (lamEnv X scope s.heap.objs.size f c') e) (fun _ s'' => L2N.CX X.prog X.w outer H s E e s'') (fun e' s'' => L2N.CX X.prog X.w outer H s E e' s'') s'
section
variable {X : Cx} {pins : List (Addr × Obj)} {σ : L2.St} {H HZ : Hp} {s s1 : Shared}
/-- door(), in the def that got the lambda -/
theorem pe_actN {CXg : CXT} {Eg : XK} {Ng : List Str} {qg : Str} {sg : Scope} {g f c' : Addr} {cdg pm ctv : Value} {params : Arguments} {body : Expr} {scope : Scope} {k i : Nat} {a : Str} {pn : List (Addr × Obj)} {xe : Value → Shared → Prop} {W : L2.WX} {E : XK} {tb : TE} {p1 p2 : Pos}
    (I : Inv X pins σ H s) (L : LamS X.env.scope scope) (hf : s.heap.get? f = some (PySem.W.kla_obj "<lambda>" (X.env.qual ++ "<lambda>") params body scope (cloFrom X.env.cells scope.names []) pm c' ctv)) (hfn : H f = none) (hfr : f ∉ frs X.stack)
    (hbind : bindArgs (PySem.W.kla_fn "<lambda>" (X.env.qual ++ "<lambda>") params body scope (cloFrom X.env.cells scope.names []) pm (.ref c') ctv) ⟨[], []⟩ = pure [])
    (tk : L2N.Takes ((cxOf CXg X.prog X.w X.K X.mg X.base Ng qg sg g cdg X.A X.stack s H Eg).tr pn xe) W) (hW : ∀ cls d σ' H', E cls d H' → W cls d σ' H') (hr : Room (k + 1) (X.A.deeper (envOfC qg sg s.heap.objs.size g cdg)))
    (hbody : ∀ (A : Around) (outer : List Env) (s : Shared) (H : Hp), Room k (A.deeper (lamEnv X scope s.heap.objs.size f c')) → PE (lamN X A outer s H E scope f c') body tb)
    (hN : Ng[i]? = some a) (hv : Vis sg a) (hd : (a == ("__debug__" : Str)) = false := by decide) (hcd : (a == ("__classdict__" : Str)) = false := by decide) :
    PE ((cxOf CXg X.prog X.w X.K X.mg X.base Ng qg sg g cdg X.A X.stack s H Eg).tr pn xe) (.Call (.Name a p1) [] [] p2)
      (fun σZ HZ Q => σZ[i]? = some (some (.ref f)) ∧ HZ c' = some (CodeO c' (X.env.qual ++ "<lambda>")) ∧ tb σ HZ Q) := by
  refine ⟨fun pinsZ sZ σZ HZ Q IZ ⟨hs, hc, ht⟩ => wpAny_Call_Name_kw (thn ((pe_var (pos := p1) (i := i) hN hv hd hcd).run pinsZ sZ σZ HZ (fun v H1 => v = .ref f ∧ H1 = HZ) IZ ⟨.ref f, hs, rfl, rfl⟩) fun u s1 ⟨v, H1, I1, r1, ev, eH⟩ => ?_)⟩
  subst ev; rw [eH] at I1; cases r1
  have of1 := I1.base.keep f _ hf hfn hfr fun z => nomatch (show f ∈ ([] : List Addr) from z)
  have un : Un (frs X.stack) [] H HZ s.heap s1.heap := I1.base
  obtain ⟨⟨oc, vs, t, hoc, hdc, hvc⟩, _, _⟩ := I1.hok c' _ hc
  have rc : codeAny (model X.prog X.w) (X.A.deeper (envOfC qg sg s.heap.objs.size g cdg)) (.call (.ref f) ⟨[], []⟩) (CR (L2N.CX X.prog X.w) (envOfC qg sg s.heap.objs.size g cdg :: X.stack) X.prog X.w HZ s1 Q E) s1 := by
    refine PySem.W.kla_callFunE hr.depth of1 rfl L.co L.gen rfl ⟨c', oc, vs, t, rfl, hoc, hdc, hvc⟩ ?_
    rw [hbind]
    refine wpAny_pure (wpAny_newFunctionEnv (fun y hy => (L.own y hy).2) (fun y hy => absurd hy (by simp)) (fun h₁ hns hsb => ⟨I1.nolimit.fresh _ hsb, ?_⟩) L.kind)
    have kp : ∀ b o, s1.heap.get? b = some o → h₁.get? b = some o := fun b o e => hsb.extBut b o (Nat.ne_of_lt (Heap.lt_size e)) (Heap.get?_push_of_some _ e)
    have J := (lam_start2 (E := E) (f := f) (c' := c') (tk := s1.toks + ([] : List (Str × Value)).length) I L I1.env0 hr.hd un hns kp).toTry (fun e s' => wpAny (model X.prog X.w) ((X.A.deeper (envOfC qg sg s.heap.objs.size g cdg)).deeper (lamEnv X scope s1.heap.objs.size f c')) (leaving (lamEnv X scope s1.heap.objs.size f c') e) (fun _ s'' => L2N.CX X.prog X.w (envOfC qg sg s.heap.objs.size g cdg :: X.stack) HZ s1 E e s'') (fun e' s'' => L2N.CX X.prog X.w (envOfC qg sg s.heap.objs.size g cdg :: X.stack) HZ s1 E e' s'') s')
    refine PySem.W.kla_codeExpr (wpAny_mono ((hbody (X.A.deeper (envOfC qg sg s.heap.objs.size g cdg)) (envOfC qg sg s.heap.objs.size g cdg :: X.stack) s1 HZ (hr.deeper _)).run [] _ _ HZ Q J ht) (fun v s' ⟨w', H', J', rv, q⟩ => ⟨w', H', J'.os, J'.bare, J'.base, J'.hok, rv, q⟩) fun e s' hq => hq)
  have hx : Passes (L2N.CX X.prog X.w) ((cxOf CXg X.prog X.w X.K X.mg X.base Ng qg sg g cdg X.A X.stack s H Eg).tr pn xe) E := L2N.passes_call tk hW
  refine PySem.W.callWith_F0 ⟨_, _, _, _, of1⟩ (wpAny_call (codeAny_mono rc fun r s' hq => ?_))
  cases r with
  | error e => exact hx pinsZ σZ HZ s1 e s' I1 hq
  | ok fl =>
    cases fl with
    | ret u => exact I1.after hq
    | next => exact False.elim hq
    | brk => exact False.elim hq
    | cont => exact False.elim hq
/-- the def that calls what it got, its exceptions told by their objects -/
def GivesN (X : Cx) (Ng : List Str) (x : Str) (sg : Scope) (g : Addr) (cdg : Value) (bg : List Stmt) (a : Str) (q : Str) (TT : (XK → Hp → VK → Prop) → Hp → VK → Prop) (k : Nat) : Prop :=
  ∀ (f c' : Addr) (s : Shared) (H : Hp) (Q : VK) (tl : XK → Hp → VK → Prop), Room k (X.A.deeper (envOfC x sg s.heap.objs.size g cdg)) → (∀ E H (Q Q' : VK), (∀ v H', Q v H' → Q' v H') → tl E H Q → tl E H Q') →
    (∀ (W : L2.WX) (pn : List (Addr × Obj)) (xe : Value → Shared → Prop) (E : XK) (p1 p2 : Pos), L2N.Takes ((cxOf C8.CX0 X.prog X.w X.K X.mg X.base Ng x sg g cdg X.A X.stack s H C8.E0).tr pn xe) W → (∀ cls d σ' H', E cls d H' → W cls d σ' H') →
      PE ((cxOf C8.CX0 X.prog X.w X.K X.mg X.base Ng x sg g cdg X.A X.stack s H C8.E0).tr pn xe) (.Call (.Name a p1) [] [] p2) (fun σZ HZ Q => σZ[0]? = some (some (.ref f)) ∧ HZ c' = some (CodeO c' q) ∧ tl E HZ Q)) →
    H c' = some (CodeO c' q) → TT tl H Q →
    ∃ t, PSs (cxOf C8.CX0 X.prog X.w X.K X.mg X.base Ng x sg g cdg X.A X.stack s H C8.E0).nox bg t ∧ t { nx := fun _ H' => Q .non H', rt := Q } (L2.start Ng [.ref f]) H
end
theorem takes_len {X : Cx} {W : L2.WX} (tk : L2N.Takes X W) : L2N.Takes X fun cls d σ H => σ.length = X.N.length → W cls d σ H := fun u s' ⟨a, B, sI, pins, σ, H, cls, d, e, I, nb, up, sky, na, os, ag, w⟩ =>
  tk u s' ⟨a, B, sI, pins, σ, H, cls, d, e, I, nb, up, sky, na, os, ag, w I.len⟩
/-- try: found = ("told", door()) / except ChainError as e: found = name(e) -/
def TTry (K : PySem.W.Frag) (CS : Addr) (nm : Addr → Str → Prop) : (XK → Hp → VK → Prop) → Hp → VK → Prop := fun tl H Q =>
  tl (fun cls d H' => PySem.W.exmOne K cls (.ref CS) = some true ∧ ∃ C word, cls = .ref C ∧ HasD d H' ∧ nm C word ∧ ∀ H'', New H' H'' → Q (.str word) H'') H fun v H' => ∀ p, H' p = none → Q (.ref p) (upd H' p (.tup [.str "told", v]))
theorem try_gives {X : Cx} {q : Str} {sg : Scope} {g CS : Addr} {cdg : Value} {k j j2 kk : Nat} {nm : Addr → Str → Prop} {p1 p2 p3 p4 p5 p6 p7 p8 p9 p10 p11 p12 p13 p14 p15 p16 p17 p18 p19 : Pos} (F : NameOk X.prog X.w X.K X.mg X.base k nm)
    (n1 : sg.names.lookup ("_law_found" : Str) = some .local) (n2 : sg.names.lookup ("_law_e" : Str) = some .local) (n3 : sg.names.lookup ("ChainError" : Str) = some .globalImplicit) (n4 : sg.names.lookup ("_law_name_of" : Str) = some .globalImplicit) (hm : X.mg "ChainError" = some (.ref CS)) :
    GivesN X ["_law_door", "_law_found", "_law_e"] "_law_try" sg g cdg [.Assign [.Name "_law_found" p1] (.Constant .none j p2) p3,
      .Try [.Assign [.Name "_law_found" p4] (.Tuple [.Constant (.str "told") j2 p5, .Call (.Name "_law_door" p6) [] [] p7] kk p8) p9] [.ExceptHandler (some (.Name "ChainError" p10)) (some "_law_e") [.Assign [.Name "_law_found" p11] (.Call (.Name "_law_name_of" p12) [.Name "_law_e" p13] [] p14) p15] p16] [] [] p17,
      .Return (some (.Name "_law_found" p18)) p19] "_law_door" q (TTry X.K CS nm) k := by
  intro f c' s H Q tl hr mono act hc h
  let Z : Cx := (cxOf C8.CX0 X.prog X.w X.K X.mg X.base ["_law_door", "_law_found", "_law_e"] "_law_try" sg g cdg X.A X.stack s H C8.E0).nox
  have nd : Z.N.Nodup := by show (["_law_door", "_law_found", "_law_e"] : List Str).Nodup; decide
  have Fz : NameOk Z.prog Z.w Z.K Z.mg Z.base k nm := F
  have tk0 : L2N.Takes Z (fun _ _ _ _ => False) := fun _ _ ⟨_, _, _, _, _, _, _, _, _, _, _, _, _, _, _, _, z⟩ => z.elim
  refine ⟨_, pss_cons (ps_set (X := Z) (i := 1) nd rfl (.inl n1) pe_non (hf := .inr n1)) (pss_cons (L2N.ps_try_as (X := Z) (i := 2) (c := .ref CS)
      (tb := fun W D σ H => ∃ Ech : XK, (∀ cls d σ' H', Ech cls d H' → σ'.length = 3 → W cls d σ' H') ∧ σ[0]? = some (some (.ref f)) ∧ H c' = some (CodeO c' q) ∧ tl Ech H fun v H1 => 2 ≤ sizeLine ∧ ∀ p, H1 p = none → D.nx (σ.set 1 (some (.ref p))) (upd H1 p (.tup [.str "told", v])))
      (ts := fun a cls d => tAsg (tNameS nm 2 a cls d) (gName 1))
      rfl rfl nd rfl n2 ⟨n3, by decide, .inl hm⟩ tk0 (fun W pn xe tk _ => ?_) (fun a oe cls d pn hz hf => ?_)) (pss_one (ps_ret (pe_var (X := Z) (i := 1) rfl (.inl n1))))), ?_⟩
  · refine ⟨fun pins s' σ H' D I ⟨Ech, hW, h1, h2, h3⟩ => ?_⟩
    have hq := pss_one (ps_set (X := Z.tr pn xe) (i := 1) (pos := p9) (pos' := p4) nd rfl (.inl n1) (pe_tup (pa_cons (pe_str (x := "told") (j := j2) (pos := p5)) (pa_cons (act (fun cls d σ H => σ.length = 3 → W cls d σ H) pn xe Ech p6 p7 (takes_len tk) hW) pa_nil)) (x1 := kk) (pos := p8)) (hf := .inr n1))
    exact hq.run pins s' σ H' D I ⟨h1, h2, h3⟩
  · exact pss_one (ps_set (X := Z.suite a ((a, oe) :: pn)) (i := 1) nd rfl (.inl n1) (pe_nameS (X := Z) Fz hr hz hf rfl n2 n4) (hf := .inr n1))
  · refine ⟨fun cls d H' => PySem.W.exmOne X.K cls (.ref CS) = some true ∧ ∃ C word, cls = .ref C ∧ HasD d H' ∧ nm C word ∧ ∀ H'', New H' H'' → Q (.str word) H'', fun cls d σ' H' ⟨e1, C, word, e2, e3, e4, e5⟩ hl => ⟨true, e1, fun _ a ha => ⟨?_, C, word, e2, e3, e4, fun H'' nw => ⟨.str word, ?_, e5 H'' nw⟩⟩, fun z => nomatch z⟩, rfl, hc, ?_⟩
    · rw [List.getElem?_set_self (by omega)]
    · rw [List.getElem?_set_ne (by decide), List.getElem?_set_self (by simp; omega)]
    · exact mono _ _ _ _ (fun v H1 h1 => ⟨by decide, fun p hp => ⟨.ref p, rfl, h1 p hp⟩⟩) h
end VC

set_option Elab.async false
set_option linter.all false
set_option maxRecDepth 100000
set_option maxHeartbeats 4000000
/-! ZG: _law_try(lambda: ..) by data. -/
namespace VC
open PySem PySem.Spec PyProof.Rows L2 LamX
section
variable {X : Cx} {pins : List (Addr × Obj)} {σ : L2.St} {H : Hp} {s : Shared}
/-- what the table at P becomes: nothing more, or one code object more -/
def TabStep (H : Hp) (P : Addr) (ps : Array Value) (q : Str) (c' : Addr) (H1 : Hp) : Prop := (H1 = H ∨ (H c' = none ∧ ∃ p : Pos, H1 = upd (upd H P (.tbl (ps ++ #[rawInt p.line, rawInt p.col, .ref c']))) c' (CodeO c' q))) ∧ H1 c' = some (CodeO c' q)
theorem lam_makeP {c P : Addr} {params : Arguments} {body : Expr} {scope : Scope} {pos : Pos} {E : Value → Shared → Prop} {Q : Value → Shared → Prop} {q : Str} {ps : Array Value} (I : Inv X pins σ H s) (TB : TabB X.base X.mg c P) (hcode : X.env.code = .ref c) (hq : X.env.qual ++ "<lambda>" = q) (hP : H P = some (.tbl ps)) (ht : TriplesOk ps.toList)
    (ha : ∀ (pos : Pos) (cv : Value), codeAmong pos ps.toList = some cv → ∃ c, cv = .ref c ∧ H c = some (CodeO c q)) (hdef : defaultsOf params X.env = ([], [])) (hfree : ∀ y ∈ scope.names, y.2 = .free → ∃ c, X.env.cells.lookup y.1 = some c)
    (h : ∀ (f c' : Addr) (pm ctv : Value) (H1 : Hp) (s' : Shared), Inv X pins σ H1 s' → TabStep H P ps q c' H1 → s'.heap.get? f = some (PySem.W.kla_obj "<lambda>" (X.env.qual ++ "<lambda>") params body scope (cloFrom X.env.cells scope.names []) pm c' ctv) → H1 f = none → f ∉ frs X.stack → Q (.ref f) s') :
    wpAny (model X.prog X.w) X.A (eval (.Lambda params body scope pos) X.env) Q E s := by
  subst hq
  refine PySem.W.kla_eval hdef ?_
  have B0 := TB.bm.keeps I.bk
  have T0 : s.heap.get? P = some { cls := .none, data := .fields ps } := I.hok P _ hP
  have far : ∀ f, s.heap.objs.size ≤ f → f ∉ frs X.stack := fun f hf z => (List.mem_cons.mp (I.stkSub _ z)).elim (fun e => by have := I.lt; rw [← e] at this; exact absurd (Nat.lt_of_lt_of_le this hf) (Nat.lt_irrefl _)) (I.nofs hf)
  cases hc : codeAmong pos ps.toList with
  | some cv =>
    obtain ⟨c', rfl, hco⟩ := ha pos cv hc
    refine PySem.W.kla_makeFunctionHit (mg := X.mg) (c := c) (P := P) (ps := ps) (closure_ok hfree) I.ok.glob (I.mod.glob.keeps I.bk) hcode (TB.code.keeps I.bk) T0 ht hc B0 fun ctv h' tk kp hs => ?_
    have J : Inv X pins σ H { s with heap := h'.push (PySem.W.kla_obj "<lambda>" (X.env.qual ++ "<lambda>") params body scope (cloFrom X.env.cells scope.names []) ((X.mg "__name__").getD .none) c' ctv), toks := tk } := I.kept fun b o e => Heap.get?_push_of_some _ (kp b o e)
    exact h h'.objs.size c' _ ctv H _ J ⟨.inl rfl, hco⟩ (Heap.get?_push_size _ rfl) (I.hok.fresh hs) (far _ hs)
  | none =>
    refine PySem.W.kla_makeFunction (mg := X.mg) (c := c) (P := P) (ps := ps) (closure_ok hfree) I.ok.glob (I.mod.glob.keeps I.bk) hcode (TB.code.keeps I.bk) T0 ht hc TB.gP B0 fun c' ctv h' tk kp ge lt rec tb => ?_
    obtain ⟨c2, oc, vs, t, e2, hoc, hd, hv⟩ := rec
    cases e2
    have hs : s.heap.objs.size ≤ h'.objs.size := Nat.le_trans ge (Nat.le_of_lt lt)
    have nC : H c' = none := I.hok.fresh ge
    have J := inv_table (t' := tk) (more := #[rawInt pos.line, rawInt pos.col, .ref c']) (h' := h'.push (PySem.W.kla_obj "<lambda>" (X.env.qual ++ "<lambda>") params body scope (cloFrom X.env.cells scope.names []) ((X.mg "__name__").getD .none) c' ctv)) I hP (fun b o hb e => Heap.get?_push_of_some _ (kp b o hb e)) (Heap.get?_push_of_some _ tb) ge ⟨oc, vs, t, Heap.get?_push_of_some _ hoc, hd, hv⟩
    refine h h'.objs.size c' _ ctv _ _ J ⟨.inr ⟨nC, pos, rfl⟩, upd_same⟩ (Heap.get?_push_size _ rfl) ?_ (far _ hs)
    rw [upd_ne (Nat.ne_of_gt lt), upd_ne (Nat.ne_of_gt (Nat.lt_of_lt_of_le (Heap.lt_size T0) hs))]; exact I.hok.fresh hs
end
def tLamP (P : Addr) (q : Str) (TT : (XK → Hp → VK → Prop) → Hp → VK → Prop) (t : XK → TE) : TE := fun σ H Q => ∃ ps : Array Value, H P = some (.tbl ps) ∧ TriplesOk ps.toList ∧ (∀ (pos : Pos) (cv : Value), codeAmong pos ps.toList = some cv → ∃ c, cv = .ref c ∧ H c = some (CodeO c q)) ∧
  ∀ c' H1, TabStep H P ps q c' H1 → TT (fun E H' Q' => t E σ H' Q') H1 Q
theorem pe_lamP {X : Cx} {TT : (XK → Hp → VK → Prop) → Hp → VK → Prop} {x a : Str} {g c P : Addr} {k : Nat} {pg : Arguments} {bg : List Stmt} {sg : Scope} {dV kV doc pm cdv ct oc : Value} {an od : Option Addr} {osl : Array (Option Value)} {Ng : List Str}
    {params : Arguments} {body : Expr} {scope : Scope} {t : XK → TE} {p lpos pos : Pos} {q : Str} (hg : Gl X x) (hm : X.mg x = some (.ref g)) (hk : PySem.W.keepIn X.K (.ref g) = true)
    (lk : X.K.lookup g = some ⟨oc, od, .func (PySem.W.fnOf x x pg bg sg dV kV doc pm an cdv ct), osl⟩) (hcg : PySem.W.codeIn X.K cdv x = true) (hb : L2.Binds X.K (PySem.W.fnOf x x pg bg sg dV kV doc pm an cdv ct) [a] []) (Sg : FnScope Ng [a] sg) (hNg : Ng[0]? = some a) (hva : Vis sg a)
    (hG : GivesN X Ng x sg g cdv bg a (X.env.qual ++ "<lambda>") TT (k + 1)) (TB : TabB X.base X.mg c P) (hcode : X.env.code = .ref c) (hq : X.env.qual ++ "<lambda>" = q) (hr : Room (k + 2) X.A) (L : LamS X.env.scope scope) (hdef : defaultsOf params X.env = ([], []))
    (hbind : ∀ (q : Str) (cl : List (Str × Addr)) (pm cv ctv : Value), bindArgs (PySem.W.kla_fn "<lambda>" q params body scope cl pm cv ctv) ⟨[], []⟩ = pure [])
    (hbody : ∀ (A : Around) (outer : List Env) (s : Shared) (H : Hp) (E : XK) (f c' : Addr), Room k (A.deeper (lamEnv X scope s.heap.objs.size f c')) → PE (lamN X A outer s H E scope f c') body (t E))
    (mono : ∀ E σ H (Q Q' : VK), (∀ v H', Q v H' → Q' v H') → t E σ H Q → t E σ H Q')
    (hdb : (x == ("__debug__" : Str)) = false := by decide) (hd : (a == ("__debug__" : Str)) = false := by decide) (hcd : (a == ("__classdict__" : Str)) = false := by decide) :
    PE X (.Call (.Name x p) [.Lambda params body scope lpos] [] pos) (tLamP P q TT t) := by
  refine ⟨fun pins s σ H Q I ⟨ps, hP, ht, ha, h⟩ => ?_⟩
  refine wpAny_Call_Name_kw (ld_glob I hg hm (PySem.W.callWith_K (h₀ := X.base) I.ok.mod.kin hk ?_ (by rfl) (by rfl)) hdb)
  change wpAny _ _ (spliced ((false, eval (.Lambda params body scope lpos) X.env) :: backTo pos (starEach [] X.env))) _ _ s
  refine Calls.spliced_cons (lam_makeP I TB hcode hq hP ht ha hdef (L.has I.ok) fun f c' pm' ctv H1 s' I1 st hf hfn hfr => Calls.spliced_nil ⟨I1.kIn, ?_⟩)
  refine wpAny_call (codeAny_mono (run_ofS (CX := C8.CX0) (E := C8.E0) (Q := Q) (N := Ng) (ps := [a]) (us := [.ref f]) (vs := [.ref f]) lk hcg Sg hr I1.env0 (hb s' [.ref f] I1.kIn rfl) (.cons rfl .nil) rfl fun hr' => ?_) fun r s2 hq => ?_)
  · obtain ⟨t', ht', hq'⟩ := hG f c' s' H1 Q (fun E H' Q' => t E σ H' Q') hr' (fun E H Q Q' i => mono E σ H Q Q' i) (fun W pn xe E p1 p2 tk hW => pe_actN (i := 0) I1 L hf hfn hfr (hbind _ _ _ _ _) tk hW hr' (fun A outer s H hr2 => hbody A outer s H E f c' hr2) hNg hva hd hcd) (by rw [hq]; exact st.2) (h c' H1 st)
    exact ⟨t', ht'.nox, hq'⟩
  · cases r with
    | error e => exact (show False from hq).elim
    | ok fl =>
      cases fl with
      | ret u => exact I1.after hq
      | next => exact False.elim hq
      | brk => exact False.elim hq
      | cont => exact False.elim hq
/-! ### by data -/
/-- the slots as the lambda sees them: what is owned is not seen -/
def dropO : VEnv → VEnv
  | [] => []
  | x :: r => (match x with
    | some (.val d) => some (.val d)
    | _ => none) :: dropO r
theorem dropO_len : ∀ env : VEnv, (dropO env).length = env.length
  | [] => rfl
  | _ :: r => by simp [dropO, dropO_len r]
theorem dropO_val : ∀ {env : VEnv} {i : Nat} {t : T}, (dropO env)[i]? = some (some t) → ∃ d, t = .val d ∧ env[i]? = some (some (.val d))
  | [], i, t, h => by simp [dropO] at h
  | x :: r, 0, t, h => by
    simp only [dropO, List.getElem?_cons_zero, Option.some.injEq] at h
    split at h
    · rename_i d; cases h; exact ⟨d, rfl, rfl⟩
    · cases h
  | x :: r, i + 1, t, h => by
    obtain ⟨d, h1, h2⟩ := dropO_val (env := r) (i := i) (t := t) (by simpa [dropO] using h)
    exact ⟨d, h1, by simpa using h2⟩
/-- the word of a class's name -/
def exWord (x : Str) : Option Str := ((exNames.zip exWords).lookup x).map fun w => w ++ "+"
theorem Rp.lam {mg : Str → Option Value} {w : WK} {B : Hp} {g0 g : Gh} {H : Hp} {σ : L2.St} {env : VEnv} {S : Sto} (R : Rp mg w B g0 g H σ env S) : Rp mg w H g g H σ (dropO env) S := by
  refine ⟨R.sto, by rw [dropO_len]; exact R.len, fun i d e => ?_, fun i m e => ?_, fun i j m m' a e => ?_, Stp.refl g H, fun a h => .inl h, fun a ha vs e => ?_⟩
  · obtain ⟨d', h1, h2⟩ := dropO_val e
    cases h1; exact R.val i d h2
  · obtain ⟨d', h1, _⟩ := dropO_val e; cases h1
  · obtain ⟨d', h1, _⟩ := dropO_val e; cases h1
  · obtain ⟨o, h1, h2⟩ := R.sto.there ha
    rw [h1] at e; exact h2 vs (Option.some.inj e)
/-- a code object more: the store's table has grown -/
theorem Rp.tab {mg : Str → Option Value} {w : WK} {B : Hp} {g0 g : Gh} {H H1 : Hp} {σ : L2.St} {env : VEnv} {S : Sto} {k : Nat} {q : Str} {P c' : Addr} {ps : Array Value} (R : Rp mg w B g0 g H σ env S) (hk : g.ρ[k]? = some P) (hS : S[k]? = some (.tbl q)) (hP : H P = some (.tbl ps)) (st : TabStep H P ps (lamQ q) c' H1) :
    ∃ g1, Stp g H g1 H1 ∧ Rp mg w B g0 g1 H1 σ env S := by
  rcases st with ⟨st | ⟨nC, p, st⟩, hc'⟩
  · subst st; exact ⟨g, Stp.refl g _, R⟩
  · have hPρ : P ∈ g.ρ := List.mem_of_getElem? hk
    have nPc : P ≠ c' := ne_of_none hP nC
    have at_ : ∀ b o, H b = some o → b ≠ P → H1 b = some o := fun b o e n => by rw [st, upd_ne (ne_of_none e nC), upd_ne n]; exact e
    have atP : H1 P = some (.tbl (ps ++ #[rawInt p.line, rawInt p.col, .ref c'])) := by rw [st, upd_ne nPc, upd_same]
    have s1 : Stp g H (g.fz c') H1 := by
      refine ⟨⟨fun a vs e => at_ a _ e fun z => ?_, fun a hF => ?_, fun a hF => .inl hF, ⟨[], by simp [Gh.fz]⟩⟩, fun a o e ha => at_ a o e fun z => ha (z ▸ hPρ), fun a ha => .inl ha⟩
      · rw [z, hP] at e; cases e
      · obtain ⟨o, e⟩ := R.sto.tr a hF
        rw [e]; exact at_ a o e fun z => R.sto.nF P hPρ (z ▸ hF)
    refine ⟨g.fz c', s1, ⟨⟨R.sto.len, R.sto.nd, fun j a m h1 h2 => ?_, fun a ha z => ?_, fun a z => ?_⟩, R.len, fun i d e => ?_, fun i m e => ?_, R.inj, R.base.trans s1, fun a z => ?_, R.noTup⟩⟩
    · have r := R.sto.at_ j a m h1 h2
      by_cases hj : j = k
      · subst hj
        rw [show (g.fz c').ρ = g.ρ from rfl, hk] at h1; cases h1
        rw [hS] at h2; cases h2
        obtain ⟨h0, ps', k1, k2, k3⟩ := r
        rw [hP] at k1; cases k1
        have eL : (ps ++ #[rawInt p.line, rawInt p.col, .ref c']).toList = ps.toList ++ [rawInt p.line, rawInt p.col, .ref c'] := by simp
        refine ⟨h0, _, atP, by rw [eL]; exact PySem.TriplesOk_snoc _ _ _ _ k2, fun p' cv hcv => ?_⟩
        rw [eL] at hcv
        rcases among_app _ k2 hcv with z | z
        · obtain ⟨c0, e1, e2, e3⟩ := k3 p' cv z
          exact ⟨c0, e1, .inl e2, (s1.frz _ e2).trans e3⟩
        · exact ⟨c', z, .inr rfl, hc'⟩
      · have ne : a ≠ P := fun z => by
          subst z
          have h1 : g.ρ[j]? = some a := h1
          exact hj ((List.getElem?_inj (List.getElem?_eq_some_iff.mp h1).1 R.sto.nd).mp (h1.trans hk.symm))
        obtain ⟨o, e, _⟩ := r.there
        exact r.mono s1.toFz ((at_ a o e ne).trans e.symm)
    · rcases z with z | z
      · exact R.sto.nF a ha z
      · obtain ⟨o, e, _⟩ := R.sto.there ha
        rw [z, nC] at e; cases e
    · rcases z with z | z
      · obtain ⟨o, e⟩ := R.sto.tr a z
        exact ⟨o, at_ a o e fun y => R.sto.nF P hPρ (y ▸ z)⟩
      · exact ⟨_, by rw [z]; exact hc'⟩
    · obtain ⟨v, h1, h2⟩ := R.val i d e
      exact ⟨v, h1, h2.mono s1.toFz⟩
    · obtain ⟨a, h1, h2, h3, h4, h5⟩ := R.own i m e
      obtain ⟨o, q1, _⟩ := h2.there
      refine ⟨a, h1, h2.mono s1.toFz ((s1.oth a o q1 h5).trans q1.symm), h3, fun z => ?_, h5⟩
      rcases z with z | z
      · exact h4 z
      · rw [z, nC] at q1; cases q1
    · rcases z with z | z
      · exact R.fN a z
      · exact .inr (by rw [z]; exact R.bn nC)
end VC

set_option Elab.async false
set_option linter.all false
set_option maxRecDepth 100000
set_option maxHeartbeats 4000000
/-! ZH: the rule of _law_try. -/
namespace VC
open PySem PySem.Spec PyProof.Rows L2 LamX
def wTry (k : Nat) (q : Str) (Wb : (XD → Sto → Prop) → WE) : WE := fun env S Q => S[k]? = some (.tbl q) ∧ ∃ Ex Q0, Wb Ex (dropO env) S Q0 ∧ (∀ x S2, Ex x S2 → ∃ word, exWord x.cls = some word ∧ x.fs = [] ∧ Q (.val (.str word)) env S2) ∧ ∀ t env' S2, Q0 t env' S2 → Q (.val (.tup [.str "told", t.d])) env S2
/-- the facts of _law_try, as this module's law has it -/
structure TryF (P : Program) (w : World) (K : PySem.W.Frag) (mg : Str → Option Value) (base : Heap) (k : Nat) : Prop where
  ex : ∃ (g CS : Addr) (pg : Arguments) (bg : List Stmt) (sg : Scope) (dV kV doc pm cdv ct oc : Value) (an od : Option Addr) (osl : Array (Option Value)), mg "_law_try" = some (.ref g) ∧ PySem.W.keepIn K (.ref g) = true ∧
    K.lookup g = some ⟨oc, od, .func (PySem.W.fnOf "_law_try" "_law_try" pg bg sg dV kV doc pm an cdv ct), osl⟩ ∧ PySem.W.codeIn K cdv "_law_try" = true ∧ L2.Binds K (PySem.W.fnOf "_law_try" "_law_try" pg bg sg dV kV doc pm an cdv ct) ["_law_door"] [] ∧
    FnScope ["_law_door", "_law_found", "_law_e"] ["_law_door"] sg ∧ Vis sg "_law_door" ∧
    (∀ (X : Cx) (q : Str), X.prog = P → X.w = w → X.K = K → X.mg = mg → X.base = base → GivesN X ["_law_door", "_law_found", "_law_e"] "_law_try" sg g cdv bg "_law_door" q (TTry K CS fun C word => ∃ x, mg x = some (.ref C) ∧ exWord x = some word) k) ∧
    ∀ (x : Str) (C : Addr) (word : Str), exWord x = some word → mg x = some (.ref C) → PySem.W.exmOne K (.ref C) (.ref CS) = some true
end VC

set_option Elab.async false
set_option linter.all false
set_option maxRecDepth 100000
set_option maxHeartbeats 4000000
/-! ZI: defs as values, called by a local name; a def that makes lambdas. -/
namespace VC
open PySem PySem.Spec PyProof.Rows L2 LamX
section
variable {X : Cx} {B : Hp} {g0 : Gh} {e : Expr} {es : List Expr} {pos : Pos} {Ex : XD → Sto → Prop}
/-- a call of what slot i holds -/
def tCallW (X : Cx) (i : Nat) (t : TA) : TE := fun σ H Q => ∃ (f : Addr) (k : Nat) (fd : FuncData) (ps : List Str) (dvs : List V) (ds : List Value) (sp : Sp) (E : XK), σ[i]? = some (some (.ref f)) ∧ FnOk X.prog X.w X.K X.mg X.base (L2N.CX X.prog X.w) k f fd ps sp ∧ PySem.W.keepIn X.K (.ref f) = true ∧ Binds X.K fd ps ds ∧ Vals dvs ds ∧ Room k X.A ∧ Passes (L2N.CX X.prog X.w) X E ∧
  t σ H fun vs H1 => sp (vs ++ dvs) H1 Q E
def wCallD (n i : Nat) (ts : List (Str × FSpec)) (Ex : XD → Sto → Prop) (W : WA) : WE := fun env S Q => match slot env i with
  | some (.val (.fn x)) => ∃ sp, ts.lookup x = some sp ∧ W env S fun ds env1 S1 => ds.length = n ∧ sp ds S1 (fun t S2 => Q t env1 S2) Ex
  | _ => False
end
section
variable {P : Program} {w : World} {K : PySem.W.Frag} {mg : Str → Option Value} {base : Heap}
/-- THE RULE for a def that makes lambdas and raises nothing: its code object is known -/
theorem fn_okT {x : Str} {st : Stmt} {dvs : List V} {kws : List (Str × V)} {fd : FuncData} {N ps : List Str} {k n : Nat} {sp : FSpec} {W : WS} (F : FunD K x x (defArgs st) (defBody st) (defScope st) dvs kws (He.fAd K (x, none)) fd) (Sc : FnScope N ps (defScope st)) (hn : n = ps.length)
    (hb : ∀ (cdv : Value), cdv = .ref (He.cT K (x, none)).1 → ∀ (A : Around) (outer : List Env) (s : Shared) (H : Hp) (E : XK) (B : Hp) (g0 : Gh), Room k (A.deeper (envOfC x (defScope st) s.heap.objs.size (He.fAd K (x, none)) cdv)) → VSs (cxX P w K mg base N x (defScope st) (He.fAd K (x, none)) cdv A outer s H E) B g0 (defBody st) W)
    (hv : ∀ ds S R, sp ds S R (fun _ _ => False) → W { nx := fun _ s => R (.val .non) s, rt := R } (env0 N.length ds) S) : FnOk P w K mg base (L2N.CX P w) (k + 1) (He.fAd K (x, none)) fd ps (SpOf mg (w, K) n sp) := by
  obtain ⟨oc, od, dV, kV, doc, pm, an, cdv, ct, osl, rfl, lk, hcd, _, _⟩ := F.ex
  obtain ⟨c, rfl⟩ := He.codeIn_ref hcd
  have ec : (Value.ref c) = .ref (He.cT K (x, none)).1 := congrArg Value.ref (He.codeOf_eq lk rfl).symm
  refine fn_of lk hcd Sc (fun vs H Q E h => h.1.trans hn) fun A outer s H vs Q E hr ⟨hl, g, S, ds, R, so, ra, hsp, fin⟩ => ?_
  have hb' := hb _ ec A outer s H E H g hr
  refine ⟨_, hb'.ps.nox, env0 N.length ds, S, g, _, rp_start so ra, hv ds S R hsp, ?_⟩
  refine ⟨fun σ' H' ⟨g', env', S', z, R', q⟩ => ?_, fun v H' ⟨g', t, σ', env', S', R', rt, q⟩ => ?_, fun _ _ ⟨_, _, _, _, _, q⟩ => q, fun _ _ ⟨_, _, _, _, _, q⟩ => q⟩
  · exact fin .non H' g' (.val .non) S' R'.base R'.sto R'.fN Rep.non q
  · refine fin v H' g' t S' R'.base R'.sto R'.fN ?_ q
    cases t with
    | val d => exact rt
    | own m => obtain ⟨a, h1, h2, h3, h4, h5, _⟩ := rt; exact ⟨a, h1, h2, h3, h4, h5⟩
end
end VC

set_option Elab.async false
set_option linter.all false
set_option maxRecDepth 100000
set_option maxHeartbeats 4000000
/-! ZJ: the facts of the twelve classes. -/
namespace VC
open PySem PySem.Spec PyProof.Rows L2 LamX
structure ExAll (K : PySem.W.Frag) (mg : Str → Option Value) : Prop where
  glo : ∀ x ∈ exNames, mg x = some (.ref (He.ga K x))
  ok : excB K = true
section
variable {K : PySem.W.Frag} {mg : Str → Option Value}
theorem ExAll.at (A : ExAll K mg) {x : Str} (hx : x ∈ exNames) : ExcC K (He.ga K x) ∧ (∀ y ∈ exNames, PySem.W.kitOne K (.ref (He.ga K x)) (.ref (He.ga K y)) = some (decide (x = y))) ∧ PySem.W.kitOne K (.ref (He.ga K x)) (.type "ValueError") = some true ∧ PySem.W.exmOne K (.ref (He.ga K x)) (.ref (He.ga K "ChainError")) = some true := by
  have h := List.all_eq_true.mp A.ok x hx
  obtain ⟨h1, h⟩ := He.ba h
  obtain ⟨h2, h⟩ := He.ba h
  obtain ⟨h3, h⟩ := He.ba h
  obtain ⟨h4, h⟩ := He.ba h
  obtain ⟨h5, h⟩ := He.ba h
  obtain ⟨h6, h⟩ := He.ba h
  obtain ⟨h7, h⟩ := He.ba h
  obtain ⟨h8, h⟩ := He.ba h
  obtain ⟨h9, h⟩ := He.ba h
  obtain ⟨h10, h11⟩ := He.ba h
  exact ⟨⟨He.eqO_ok h1, He.eqO_ok h2, of_decide_eq_true h3, h4, He.eqO_ok h5, He.eqO_ok h6, of_decide_eq_true h7, of_decide_eq_true h8⟩, fun y hy => of_decide_eq_true (List.all_eq_true.mp h9 y hy), of_decide_eq_true h10, of_decide_eq_true h11⟩
end
def hots (x : Str) : List Bool := exNames.map fun y => decide (x = y)
theorem hots_j1 : ∀ x ∈ exNames, ((exPick exWords (hots x)).map (·.length)).sum + (exPick exWords (hots x)).length * ("" : Str).length ≤ 16777216 := by decide +kernel
theorem hots_j2 : ∀ x ∈ exNames, (Txt.join ("" : Str) (exPick exWords (hots x))).length + ("+" : Str).length ≤ sizeLine := by decide +kernel
theorem hots_w : ∀ x ∈ exNames, exWord x = some (Txt.join ("" : Str) (exPick exWords (hots x)) ++ "+") := by decide +kernel
theorem exWord_mem {x word : Str} (h : exWord x = some word) : x ∈ exNames := by
  unfold exWord at h
  obtain ⟨w, h1, _⟩ := Option.map_eq_some_iff.mp h
  have := PySem.mem_of_lookup h1
  exact (List.of_mem_zip this).1
section
variable {X : Cx} {q : Addr × Obj} {p1 p2 p3 p4 : Pos} {x y : Str} {dq : Option Addr}
theorem pe_isC (A : ExAll X.K X.mg) (hx : x ∈ exNames) (hy : y ∈ exNames) (hq : q ∈ X.pn) (hz : Zc (.ref (He.ga X.K x)) dq q.2) (hf : ∃ vs, q.2.data = .fields vs) (hN : X.N[0]? = some ("_law_e" : Str)) (hv : X.env.scope.names.lookup ("_law_e" : Str) = some .local) (hg : Gl X "isinstance") (hm : X.mg "isinstance" = none)
    (hgy : Gl X y) (hdy : (y == ("__debug__" : Str)) = false := by decide) : PE X (.Call (.Name "isinstance" p1) [.Name "_law_e" p2, .Name y p3] [] p4) (tIs q.1 dq (decide (x = y))) :=
  pe_is (c := .ref (He.ga X.K y)) hq (A.at hx).1 hz hf (fun _ r => r) ((A.at hx).2.1 y hy) hN hv hg hm (pe_glob hgy (A.glo y hy) rfl hdy)
theorem pe_isV (A : ExAll X.K X.mg) (hx : x ∈ exNames) (hq : q ∈ X.pn) (hz : Zc (.ref (He.ga X.K x)) dq q.2) (hf : ∃ vs, q.2.data = .fields vs) (hN : X.N[0]? = some ("_law_e" : Str)) (hv : X.env.scope.names.lookup ("_law_e" : Str) = some .local) (hg : Gl X "isinstance") (hm : X.mg "isinstance" = none)
    (hgv : Gl X "ValueError") (hmv : X.mg "ValueError" = none) : PE X (.Call (.Name "isinstance" p1) [.Name "_law_e" p2, .Name "ValueError" p3] [] p4) (tIs q.1 dq true) :=
  pe_is (c := .ty "ValueError") hq (A.at hx).1 hz hf (fun _ r => r) (A.at hx).2.2.1 hN hv hg hm (pe_bltn hgv hmv (by decide +kernel) rfl)
end
section
variable {P : Program} {w : World} {K : PySem.W.Frag} {mg : Str → Option Value} {base : Heap}
abbrev N6 : List Str := ["_law_e", "_law_matching", "_law_words", "_law_found", "_law_word", "_law_good"]
abbrev nmW (mg : Str → Option Value) : Addr → Str → Prop := fun C word => ∃ x, mg x = some (.ref C) ∧ exWord x = some word
theorem name_ok {st : Stmt} {f : Addr} {fd : FuncData} (F : FunD K "_law_name_of" "_law_name_of" (defArgs st) (defBody st) (defScope st) [] [] f fd) (Sc : FnScope N6 ["_law_e"] (defScope st)) (hm : mg "_law_name_of" = some (.ref f)) (hb : Binds K fd ["_law_e"] []) (A : ExAll K mg)
    (hbody : ∀ (X : Cx) (q : Addr × Obj) (x : Str) (d : Option Addr) (H : Hp) (Q : VK), X.N = N6 → X.env.scope = defScope st → X.K = K → X.mg = mg → HotP X q → q ∈ X.pn → x ∈ exNames → Zc (.ref (He.ga X.K x)) d q.2 → (∃ vs, q.2.data = .fields vs) → HasD d H →
      (∀ H', New H H' → Q (.str (Txt.join ("" : Str) (exPick exWords (hots x)) ++ "+")) H') → ∃ t, PSs X (defBody st) t ∧ t { nx := fun _ H' => Q .non H', rt := Q } (L2.start X.N [.ref q.1]) H) : NameOk P w K mg base 1 (nmW mg) := by
  obtain ⟨oc, od, dV, kV, doc, pm, an, cdv, ct, osl, rfl, lk, hcd, kp, _⟩ := F.ex
  refine ⟨f, _, hm, F.kp, hb, name_run lk hcd Sc fun CX A' outer s H Q E p C d word hot hz hD ⟨x, hx1, hx2⟩ fin => ?_⟩
  have hx := exWord_mem hx2
  have e : C = He.ga K x := by have := A.glo x hx; rw [hx1] at this; exact Value.ref.inj (Option.some.inj this)
  subst e
  obtain ⟨_, vs, hvs, hc⟩ := id hot
  refine hbody (L2H.cxH CX P w K mg base N6 "_law_name_of" (defScope st) f cdv A' outer s H E p) p x d H Q rfl rfl rfl rfl hot (List.mem_singleton.mpr rfl) hx hz ⟨vs, hvs⟩ hD fun H' nw => ?_
  have := hots_w x hx
  rw [hx2] at this
  rw [← Option.some.inj this]
  exact fin H' nw
theorem try_f {st : Stmt} {g : Addr} {fd : FuncData} {k : Nat} (F : FunD K "_law_try" "_law_try" (defArgs st) (defBody st) (defScope st) [] [] g fd) (Sc : FnScope ["_law_door", "_law_found", "_law_e"] ["_law_door"] (defScope st)) (hm : mg "_law_try" = some (.ref g)) (hb : Binds K fd ["_law_door"] []) (A : ExAll K mg) (hv : Vis (defScope st) "_law_door")
    (hG : ∀ (X : Cx) (cdv : Value) (q : Str), X.prog = P → X.w = w → X.K = K → X.mg = mg → X.base = base → GivesN X ["_law_door", "_law_found", "_law_e"] "_law_try" (defScope st) g cdv (defBody st) "_law_door" q (TTry K (He.ga K "ChainError") (nmW mg)) k) : TryF P w K mg base k := by
  obtain ⟨oc, od, dV, kV, doc, pm, an, cdv, ct, osl, rfl, lk, hcd, kp, _⟩ := F.ex
  refine ⟨g, He.ga K "ChainError", defArgs st, defBody st, defScope st, dV, kV, doc, pm, cdv, ct, oc, an, od, osl, hm, F.kp, lk, hcd, hb, Sc, hv, fun X q h1 h2 h3 h4 h5 => hG X cdv q h1 h2 h3 h4 h5, fun x C word h1 h2 => ?_⟩
  have hx := exWord_mem h1
  have e : C = He.ga K x := by have := A.glo x hx; rw [h2] at this; exact Value.ref.inj (Option.some.inj this)
  rw [e]; exact (A.at hx).2.2.2
end
end VC

set_option Elab.async false
set_option linter.all false
set_option maxRecDepth 100000
set_option maxHeartbeats 4000000
/-! W_x: what each def does, printed by gen.py. -/
namespace VC
open PySem PySem.Spec PyProof.Rows L2
def wfx_need_chain (sp_is_chain_of : FSpec) (Ex : XD → Sto → Prop) : WS :=
  (wIfS (wNot (wTst (wCall 1 sp_is_chain_of (wAC (wV 0) wA0))))
  (wRaise "InvalidChain" Ex)
  wNil)

def wfx_need_signal (sp_are_levels_2 : FSpec) (Ex : XD → Sto → Prop) : WS :=
  (wIfS (wNot (wTst (wCall 2 sp_are_levels_2 (wAC (wB opIxX (oV 0) (oE (wC (.int 0)))) (wAC (wV 1) wA0)))))
  (wRaise "InvalidSignal" Ex)
  wNil)

def wfx_need_pair (spx_need_chain : FSpec) (Ex : XD → Sto → Prop) : WS :=
  (wSeq (wDrop (wCallX 1 spx_need_chain Ex (wAC (wV 0) wA0)))
  (wSeq (wDrop (wCallX 1 spx_need_chain Ex (wAC (wV 1) wA0)))
  (wIfS (wTst (wB (opEq true) (oE (wB opIxX (oV 0) (oE (wC (.int 0))))) (oE (wB opIxX (oV 1) (oE (wC (.int 0)))))))
  (wRaise "InvalidPair" Ex)
  wNil)))

def wfx_alike (spx_need_pair : FSpec) (Ex : XD → Sto → Prop) : WS :=
  (wSeq (wDrop (wCallX 2 spx_need_pair Ex (wAC (wV 0) (wAC (wV 1) wA0))))
  wNev)

def wfx_parting_signal (spx_need_pair : FSpec) (Ex : XD → Sto → Prop) : WS :=
  (wSeq (wDrop (wCallX 2 spx_need_pair Ex (wAC (wV 0) (wAC (wV 1) wA0))))
  wNev)

def wfx_bound (spx_need_pair : FSpec) (Ex : XD → Sto → Prop) : WS :=
  (wSeq (wDrop (wCallX 2 spx_need_pair Ex (wAC (wV 0) (wAC (wV 1) wA0))))
  wNev)

def wfx_apart (spx_need_pair : FSpec) (Ex : XD → Sto → Prop) : WS :=
  (wSeq (wDrop (wCallX 2 spx_need_pair Ex (wAC (wV 0) (wAC (wV 1) wA0))))
  wNev)

def wfx_need_number (sp_is_from : FSpec) (Ex : XD → Sto → Prop) : WS :=
  (wIfS (wNot (wTst (wCall 3 sp_is_from (wAC (wV 0) (wAC (wV 1) (wAC (wV 2) wA0))))))
  (wRaise "InvalidNumber" Ex)
  wNil)

def wfx_apart_signal (spx_need_pair : FSpec) (spx_need_number : FSpec) (Ex : XD → Sto → Prop) : WS :=
  (wSeq (wDrop (wCallX 2 spx_need_pair Ex (wAC (wV 0) (wAC (wV 1) wA0))))
  (wSeq (wDrop (wCallX 3 spx_need_number Ex (wAC (wV 2) (wAC (wB opSub (oE (wC (.int 0))) (oE (wB opIxX (oV 0) (oE (wC (.int 0)))))) (wAC (wB opIxX (oV 0) (oE (wC (.int 0)))) wA0)))))
  wNev))

def wfx_need_level (sp_is_from : FSpec) (Ex : XD → Sto → Prop) : WS :=
  (wIfS (wNot (wTst (wCall 3 sp_is_from (wAC (wV 1) (wAC (wC (.int 0)) (wAC (wB opIxX (oV 0) (oE (wC (.int 0)))) wA0))))))
  (wRaise "InvalidLevel" Ex)
  wNil)

def wfx_settled (spx_need_chain : FSpec) (spx_need_level : FSpec) (Ex : XD → Sto → Prop) : WS :=
  (wSeq (wDrop (wCallX 1 spx_need_chain Ex (wAC (wV 0) wA0)))
  (wSeq (wDrop (wCallX 2 spx_need_level Ex (wAC (wV 0) (wAC (wV 1) wA0))))
  wNev))

def wfx_need_outputs (sp_are_levels_2 : FSpec) (Ex : XD → Sto → Prop) : WS :=
  (wIfS (wNot (wTst (wCall 2 sp_are_levels_2 (wAC (wB opIxX (oV 0) (oE (wC (.int 0)))) (wAC (wV 1) wA0)))))
  (wRaise "InvalidOutputs" Ex)
  wNil)

def wfx_is_possible (spx_need_chain : FSpec) (spx_need_outputs : FSpec) (Ex : XD → Sto → Prop) : WS :=
  (wSeq (wDrop (wCallX 1 spx_need_chain Ex (wAC (wV 0) wA0)))
  (wSeq (wDrop (wCallX 2 spx_need_outputs Ex (wAC (wV 0) (wAC (wV 1) wA0))))
  wNev))

def wfx_count_signals (spx_need_chain : FSpec) (spx_need_outputs : FSpec) (Ex : XD → Sto → Prop) : WS :=
  (wSeq (wDrop (wCallX 1 spx_need_chain Ex (wAC (wV 0) wA0)))
  (wSeq (wDrop (wCallX 2 spx_need_outputs Ex (wAC (wV 0) (wAC (wV 1) wA0))))
  wNev))

def wfx_first_signal (spx_need_chain : FSpec) (spx_need_outputs : FSpec) (Ex : XD → Sto → Prop) : WS :=
  (wSeq (wDrop (wCallX 1 spx_need_chain Ex (wAC (wV 0) wA0)))
  (wSeq (wDrop (wCallX 2 spx_need_outputs Ex (wAC (wV 0) (wAC (wV 1) wA0))))
  wNev))

def wfx_possible_levels (spx_need_chain : FSpec) (spx_need_outputs : FSpec) (Ex : XD → Sto → Prop) : WS :=
  (wSeq (wDrop (wCallX 1 spx_need_chain Ex (wAC (wV 0) wA0)))
  (wSeq (wDrop (wCallX 2 spx_need_outputs Ex (wAC (wV 0) (wAC (wV 1) wA0))))
  wNev))

end VC

set_option Elab.async false
set_option linter.all false
set_option maxRecDepth 100000
set_option maxHeartbeats 4000000
/-! IA: new lists of the store as values; d[k].append(e); a loop over a list of the store; d[k] -= e. -/
namespace VC
open PySem PySem.Spec PyProof.Rows L2
section
variable {X : Cx} {B : Hp} {g0 : Gh} {e o k tg : Expr} {pos apos tpos : Pos}
/-- an object that H lacks becomes the store's, seen from H -/
theorem Stp.pub {g : Gh} {H H' : Hp} {a : Addr} (st : New H H') (tr : ∀ b, g.F b → ∃ o, H b = some o) (ha : H a = none) (z : Fz g H' ⟨g.F, g.ρ ++ [a]⟩ H') : Stp g H ⟨g.F, g.ρ ++ [a]⟩ H' :=
  ⟨(Fz.new st tr).trans z, fun b o h _ => st b o h, fun b hb => by
    rcases List.mem_append.mp hb with q | q
    · exact .inl q
    · rw [List.mem_singleton.mp q]; exact .inr ha⟩
/-- [], an object of the store -/
def wNilP : WE := fun env S Q => Q (.val (.ref S.length)) env (S ++ [.lst []])
/-- o[k].append(e) and the like: a list of the store -/
def wAppX (Wo : WO) (We : WE) : WS := fun D env S => Wo env S fun d env0 S0 => ∃ (r : Nat) (ds0 : List VC.D), d = .ref r ∧ S0[r]? = some (.lst ds0) ∧ We env0 S0 fun t env1 S1 =>
  ∃ ds : List VC.D, S1[r]? = some (.lst ds) ∧ ds.length < 1000000 ∧ D.nx env1 (S1.set r (.lst (ds ++ [t.d])))
theorem Top.ref {mg : Str → Option Value} {w : WK} {g : Gh} {H : Hp} {r : Nat} {v : V} (h : Top mg w g H (.ref r) v) : ∃ a, v = .ref a ∧ g.ρ[r]? = some a := by
  rcases h with h | ⟨a, m, h1, h2, _⟩
  · cases h with
    | ref h => exact ⟨_, rfl, h⟩
  · cases m <;> cases h2
/-- for .. in a list of the store that stays as it is -/
def wForR (Wo : WO) (G : WG) (W : WS) : WS := fun D env S => Wo env S fun d env1 S1 => ∃ (r : Nat) (ds : List VC.D), d = .ref r ∧ S1[r]? = some (.lst ds) ∧
  forW (fun x e s Q => s[r]? = some (.lst ds) ∧ G x e s Q) W { D with nx := fun e s => s[r]? = some (.lst ds) ∧ D.nx e s } ds env1 S1
/-- name[k] op= e: ints of an own dict -/
def wAugX (i : Nat) (f : Int → Int → Int) (Wk : WO) (We : WE) : WS := fun D env S => ∃ ks0 ds0, slot env i = some (.own (.dct ks0 ds0)) ∧ Wk env S fun k env1 S1 =>
  ∃ ks ds, slot env1 i = some (.own (.dct ks ds)) ∧ (kok k 8 = true ∧ Kinds ks k ∧ ks.length < 200000) ∧ ∃ (j : Nat) (x : Int), ks[j]? = some k ∧ ds[j]? = some (.int x) ∧ We env1 S1 fun t env2 S2 =>
    slot env2 i = some (.own (.dct ks ds)) ∧ ∃ y : Int, t = .val (.int y) ∧ D.nx (env2.set i (some (.own (.dct ks (ds.set j (.int (f x y))))))) S2
def rGetX (X : Cx) : V → V → Hp → VK → Prop := fun o y H Q => ∃ (a : Addr) (es : List DictEntry) (ep : Nat) (g : Gh) (ks ds : List VC.D) (k d : VC.D) (i : Nat) (x : Int), o = .ref a ∧ H a = some (.ext (DictAt a (es, ep))) ∧ RepEs X.mg X.wk g H ks ds es ∧ (ks.map D.key).Nodup ∧ kok k 8 = true ∧ Kinds ks k ∧ Rep X.mg X.wk g H k y ∧ ks[i]? = some k ∧ ds[i]? = some d ∧ d = VC.D.int x ∧ Q (V.int x) H
end
end VC

set_option Elab.async false
set_option linter.all false
set_option maxRecDepth 100000
set_option maxHeartbeats 4000000
/-! OA: instances in the store: fields read and set. -/
namespace VC
open PySem PySem.Spec PyProof.Rows L2
theorem RepAll.at_ {mg : Str → Option Value} {w : WK} {g : Gh} {H : Hp} {ds : List D} {vs : List V} (h : RepAll mg w g H ds vs) : ∀ {i : Nat} {d : D}, ds[i]? = some d → ∃ v, vs[i]? = some v ∧ Rep mg w g H d v := by
  intro i
  induction i generalizing ds vs with
  | zero =>
    intro d hd
    cases h with
    | nil => cases hd
    | cons a b => cases hd; exact ⟨_, rfl, a⟩
  | succ i ih =>
    intro d hd
    cases h with
    | nil => cases hd
    | cons a b => exact ih b hd
section
variable {X : Cx} {B : Hp} {g0 : Gh} {e o : Expr} {pos : Pos}
/-- a field of an instance of the store -/
def wFld (C : Str) (Wo : WO) (f : Str) : WE := fun env S Q => Wo env S fun d env1 S1 => ∃ (r : Nat) (ns : List Str) (xs : List D) (i : Nat) (x : D), d = .ref r ∧ S1[r]? = some (.ins C ns xs) ∧ ns[i]? = some f ∧ xs[i]? = some x ∧ Q (.val x) env1 S1
end
end VC

set_option Elab.async false
set_option linter.all false
set_option maxRecDepth 100000
set_option maxHeartbeats 4000000
/-! OB: a field of an instance set. -/
namespace VC
open PySem PySem.Spec PyProof.Rows L2
def putI (C : Str) (ns : List Str) (xs : List D) (f : Str) (d : D) : M := if f ∈ ns then .ins C ns (xs.set (ns.idxOf f) d) else .ins C (ns ++ [f]) (xs ++ [d])
theorem putF_in {f : Str} {v : V} : ∀ {ns : List Str} {vs : List V}, f ∈ ns → ns.length = vs.length → putF f v (ns.zip vs) = ns.zip (vs.set (ns.idxOf f) v)
  | [], _, h, _ => by cases h
  | n :: ns, [], _, h => by cases h
  | n :: ns, u :: vs, h, hl => by
    show (if n = f then (n, v) :: ns.zip vs else (n, u) :: putF f v (ns.zip vs)) = _
    by_cases e : n = f
    · subst e
      rw [if_pos rfl, List.idxOf_cons_self]
      rfl
    · have hb : (n == f) = false := by simpa using e
      have hi : (n :: ns).idxOf f = ns.idxOf f + 1 := by rw [List.idxOf_cons, hb]; rfl
      rw [if_neg e, hi, putF_in ((List.mem_cons.mp h).resolve_left fun z => e z.symm) (by simpa using hl)]
      rfl
theorem putF_new {f : Str} {v : V} : ∀ {ns : List Str} {vs : List V}, f ∉ ns → ns.length = vs.length → putF f v (ns.zip vs) = (ns ++ [f]).zip (vs ++ [v])
  | [], [], _, _ => rfl
  | [], _ :: _, _, h => by cases h
  | n :: ns, [], _, h => by cases h
  | n :: ns, u :: vs, h, hl => by
    show (if n = f then (n, v) :: ns.zip vs else (n, u) :: putF f v (ns.zip vs)) = _
    rw [if_neg fun e => h (by rw [e]; exact List.mem_cons_self ..), putF_new (fun z => h (List.mem_cons_of_mem _ z)) (by simpa using hl)]
    rfl
theorem RepAll.setX {mg : Str → Option Value} {w : WK} {g : Gh} {H : Hp} {d : D} {v : V} (r : Rep mg w g H d v) : ∀ {ds : List D} {vs : List V}, RepAll mg w g H ds vs → ∀ i, RepAll mg w g H (ds.set i d) (vs.set i v)
  | _, _, .nil, i => by simp; exact .nil
  | _, _, .cons a b, 0 => .cons r b
  | _, _, .cons a b, i + 1 => .cons a (RepAll.setX r b i)
def pubT : T → Sto → (D → Sto → Prop) → Prop
  | .val d, S, K => K d S
  | .own m, S, K => K (.ref S.length) (S ++ [m])
section
variable {X : Cx} {B : Hp} {g0 : Gh} {e o : Expr} {pos pos' : Pos}
def wSetF (C f : Str) (We : WE) (Wo : WO) : WS := fun D env S => We env S fun t env1 S1 => pubT t S1 fun d S2 => Wo env1 S2 fun od env2 S3 => ∃ (r : Nat) (ns : List Str) (xs : List VC.D), od = .ref r ∧ S3[r]? = some (.ins C ns xs) ∧ ns.length < 999 ∧ D.nx env2 (S3.set r (putI C ns xs f d))
end
end VC

set_option Elab.async false
set_option linter.all false
set_option maxRecDepth 100000
set_option maxHeartbeats 4000000
/-! OC: o[k] = e, o an expression that gives a dict of the store. -/
namespace VC
open PySem PySem.Spec PyProof.Rows L2
section
variable {X : Cx} {B : Hp} {g0 : Gh}
def wSetR (We : WE) (Wo Wk : WO) : WS := fun D env S => We env S fun t env1 S1 => Wo env1 S1 fun od env2 S2 => Wk env2 S2 fun k env3 S3 => ∃ (r : Nat) (ks ds : List VC.D), od = .ref r ∧ S3[r]? = some (.dct ks ds) ∧ (kok k 8 = true ∧ Kinds ks k ∧ ks.length < 16000000) ∧
  ((∃ j : Nat, ks[j]? = some k ∧ D.nx env3 (S3.set r (.dct ks (ds.set j t.d)))) ∨ (k ∉ ks ∧ D.nx env3 (S3.set r (.dct (ks ++ [k]) (ds ++ [t.d])))))
end
end VC

set_option Elab.async false
set_option linter.all false
set_option maxRecDepth 100000
set_option maxHeartbeats 4000000
/-! OD: methods of instances of the store; instances made. -/
namespace VC
open PySem PySem.Spec PyProof.Rows L2
theorem lookup_zip_none {f : Str} : ∀ {ns : List Str} {vs : List V}, f ∉ ns → (ns.zip vs).lookup f = none
  | [], _, _ => rfl
  | n :: ns, [], _ => rfl
  | n :: ns, v :: vs, h => by
    have hne : (f == n) = false := Bool.eq_false_iff.mpr fun z => h (by rw [LawfulBEq.eq_of_beq z]; exact List.mem_cons_self ..)
    show List.lookup f ((n, v) :: ns.zip vs) = none
    rw [List.lookup, hne]
    exact lookup_zip_none fun z => h (List.mem_cons_of_mem _ z)
/-- the promise of a method of a class; n counts self -/
structure MthV (P : Program) (w : World) (K : PySem.W.Frag) (mg : Str → Option Value) (base : Heap) (C m : Str) (n k : Nat) (sp : FSpec) : Prop where
  mono : MoF sp
  ex : ∃ (Ca f : Addr) (fd : FuncData) (ps : List Str), FnOk P w K mg base (L2N.CX P w) k f fd ps (SpOf mg (w, K) n sp) ∧ mg C = some (.ref Ca) ∧ L2.Cls K Ca ∧ Meth K Ca m f ∧ Binds K fd ps []
/-- the promise of a class's __init__; n counts self -/
structure MakV (P : Program) (w : World) (K : PySem.W.Frag) (mg : Str → Option Value) (base : Heap) (C : Str) (n k : Nat) (sp : FSpec) : Prop where
  mono : MoF sp
  ex : ∃ (Ca f : Addr) (fd : FuncData) (ps : List Str), FnOk P w K mg base (L2N.CX P w) k f fd ps (SpOf mg (w, K) n sp) ∧ mg C = some (.ref Ca) ∧ Mk K Ca f ∧ Binds K fd ps []
section
variable {X : Cx} {B : Hp} {g0 : Gh} {o e : Expr} {es : List Expr} {pos apos p : Pos}
def wMtC (C m : Str) (n : Nat) (sp : FSpec) (Wo : WO) (W : WA) : WE := fun env S Q => Wo env S fun od env1 S1 => ∃ (r : Nat) (ns : List Str) (xs : List D), od = .ref r ∧ S1[r]? = some (.ins C ns xs) ∧ m ∉ ns ∧
  W env1 S1 fun ds env2 S2 => ds.length + 1 = n ∧ sp (.ref r :: ds) S2 (fun t S3 => Q t env2 S3) (fun _ _ => False)
/-- an instance made -/
def wMake (C : Str) (n : Nat) (sp : FSpec) (W : WA) : WE := fun env S Q => W env S fun ds env1 S1 => ds.length + 1 = n ∧ sp (.ref S1.length :: ds) (S1 ++ [.ins C [] []]) (fun t S2 => t = .val .non ∧ Q (.val (.ref S1.length)) env1 S2) (fun _ _ => False)
end
end VC

set_option Elab.async false
set_option linter.all false
set_option maxRecDepth 100000
set_option maxHeartbeats 4000000
/-! W_o: what each def does, printed by gen.py. -/
namespace VC
open PySem PySem.Spec PyProof.Rows L2

end VC

set_option Elab.async false
set_option linter.all false
set_option maxRecDepth 100000
set_option maxHeartbeats 4000000
/-! CA: defs with a star parameter; methods called without arguments, methods with a star parameter. -/
namespace VC
open PySem PySem.Spec PyProof.Rows L2
/-- a promise by positional values, n of them named at least -/
def SpR (mg : Str → Option Value) (w : WK) (n : Nat) (sp : FSpec) : Sp := fun vs H Q _ => ∃ g S ds R, StoOk mg w g H S ∧ RepAll mg w g H ds vs ∧ n ≤ ds.length ∧ ds.length ≤ 1000000 ∧ sp ds S R (fun _ _ => False) ∧
  ∀ v H' g' t S', Stp g H g' H' → StoOk mg w g' H' S' → (∀ a, g'.F a → g.F a ∨ H a = none) → RF mg w H g' H' t v → R t S' → Q v H'
/-- .. of the body's slots -/
def SpB (mg : Str → Option Value) (w : WK) (N : List Str) (W : WS) : Sp := fun vs H Q _ => ∃ g S ds R, StoOk mg w g H S ∧ RepAll mg w g H ds vs ∧ W { nx := fun _ s => R (.val .non) s, rt := R } (env0 N.length ds) S ∧
  ∀ v H' g' t S', Stp g H g' H' → StoOk mg w g' H' S' → (∀ a, g'.F a → g.F a ∨ H a = none) → RF mg w H g' H' t v → R t S' → Q v H'
theorem New.none {H H' : Hp} (h : New H H') {a : Addr} (e : H' a = none) : H a = none := by
  cases q : H a with
  | none => rfl
  | some o => rw [h a o q] at e; cases e
theorem RF.new {mg : Str → Option Value} {w : WK} {H H' H2 : Hp} {g : Gh} {t : T} {v : V} (h : New H H') (r : RF mg w H' g H2 t v) : RF mg w H g H2 t v := by
  cases t with
  | val d => exact r
  | own m => obtain ⟨a, h1, h2, h3, h4⟩ := r; exact ⟨a, h1, h2, h.none h3, h4⟩
section
variable {P : Program} {w : World} {K : PySem.W.Frag} {mg : Str → Option Value} {base : Heap}
/-- the promise of a method with a star parameter -/
structure MthR (P : Program) (w : World) (K : PySem.W.Frag) (mg : Str → Option Value) (base : Heap) (C m : Str) (n k : Nat) (sp : FSpec) : Prop where
  mono : MoF sp
  ex : ∃ (Ca f : Addr), FnR P w K mg base (L2N.CX P w) k f (SpR mg (w, K) n sp) ∧ mg C = some (.ref Ca) ∧ L2.Cls K Ca ∧ Meth K Ca m f
end
section
variable {X : Cx} {B : Hp} {g0 : Gh} {o e : Expr} {es : List Expr} {pos apos p : Pos}
def wMtR (C m : Str) (n : Nat) (sp : FSpec) (Wo : WO) (W : WA) : WE := fun env S Q => Wo env S fun od env1 S1 => ∃ (r : Nat) (ns : List Str) (xs : List D), od = .ref r ∧ S1[r]? = some (.ins C ns xs) ∧ m ∉ ns ∧
  W env1 S1 fun ds env2 S2 => (n ≤ ds.length + 1 ∧ ds.length < 1000000) ∧ sp (.ref r :: ds) S2 (fun t S3 => Q t env2 S3) (fun _ _ => False)
/-- o.m() -/
def wMtC0 (C m : Str) (sp : FSpec) (Wo : WO) : WE := fun env S Q => Wo env S fun od env1 S1 => ∃ (r : Nat) (ns : List Str) (xs : List D), od = .ref r ∧ S1[r]? = some (.ins C ns xs) ∧ m ∉ ns ∧
  sp [.ref r] S1 (fun t S3 => Q t env1 S3) (fun _ _ => False)
end
end VC

set_option Elab.async false
set_option linter.all false
set_option maxRecDepth 100000
set_option maxHeartbeats 4000000
/-! CB: instances made with positional values, starred ones among them, and one keyword. -/
namespace VC
open PySem PySem.Spec PyProof.Rows L2
/-- *e among the arguments, e a tuple -/
def wAS (We : WE) (Wr : WA) : WA := fun env S Q => We env S fun t env1 S1 => ∃ xs, t = .val (.tup xs) ∧ Wr env1 S1 fun ds env2 S2 => Q (xs ++ ds) env2 S2
section
variable {X : Cx} {B : Hp} {g0 : Gh} {e : Expr} {es : List Expr} {p : Pos}
end
/-- a promise by positional values and the value of one keyword -/
def FnK (P : Program) (w : World) (K : PySem.W.Frag) (mg : Str → Option Value) (base : Heap) (CX : CXT) (k : Nat) (f : Addr) (kn : Str) (sp : List V → V → Hp → VK → XK → Prop) : Prop :=
  ∀ (A : Around) (outer : List Env) (s : Shared) (H : Hp) (us : List Value) (u : Value) (vs : List V) (v : V) (Q : VK) (E : XK), Room k A → Env0 P w K mg base A outer s H → Vals vs us → RelV v u → sp vs v H Q E →
    codeAny (model P w) A (.call (.ref f) ⟨us, [(kn, u)]⟩) (CR CX outer P w H s Q E) s
def SpK (mg : Str → Option Value) (w : WK) (n : Nat) (sp : FSpec) : List V → V → Hp → VK → XK → Prop := fun vs v H Q _ => ∃ g S ds d R, StoOk mg w g H S ∧ RepAll mg w g H ds vs ∧ Rep mg w g H d v ∧ n ≤ ds.length ∧ ds.length ≤ 1000000 ∧ sp (d :: ds) S R (fun _ _ => False) ∧
  ∀ v H' g' t S', Stp g H g' H' → StoOk mg w g' H' S' → (∀ a, g'.F a → g.F a ∨ H a = none) → RF mg w H g' H' t v → R t S' → Q v H'
section
variable {P : Program} {w : World} {K : PySem.W.Frag} {mg : Str → Option Value} {base : Heap}
/-- the promise of an __init__ with a star parameter and a keyword -/
structure MakK (P : Program) (w : World) (K : PySem.W.Frag) (mg : Str → Option Value) (base : Heap) (C kn : Str) (n k : Nat) (sp : FSpec) : Prop where
  mono : MoF sp
  ex : ∃ (Ca f : Addr), FnK P w K mg base (L2N.CX P w) k f kn (SpK mg (w, K) n sp) ∧ mg C = some (.ref Ca) ∧ Mk K Ca f
end
/-! ### the call -/
section
variable {X : Cx} {B : Hp} {g0 : Gh} {e z : Expr} {es : List Expr} {pos p kp : Pos} {kn : Str}
def tMakeS (C : Addr) (sp : List V → V → Hp → VK → XK → Prop) (E : XK) (t tk : TA) : TE := fun σ H Q => t σ H fun vs H1 => tk σ H1 fun zs H2 => ∃ v, zs = [v] ∧ ∀ x dx, H2 x = none → H2 dx = none → dx ≠ x →
  sp (.ref x :: vs) v (upd (upd H2 dx (.own x)) x (.ins C dx [])) (fun r H3 => r = .non ∧ Q (.ref x) H3) E
end
end VC

set_option Elab.async false
set_option linter.all false
set_option maxRecDepth 100000
set_option maxHeartbeats 4000000
/-! CC: C(e, .., k = z) and C(e, *y, k = z). -/
namespace VC
open PySem PySem.Spec PyProof.Rows L2
section
variable {X : Cx} {B : Hp} {g0 : Gh} {e z : Expr} {es : List Expr} {pos p kp : Pos} {kn x : Str} {C f : Addr} {k : Nat} {sp : List V → V → Hp → VK → XK → Prop} {E : XK} {CX : CXT} {t tk : TA}
/-- an instance made with one keyword; the promise's first datum is the keyword's -/
def wMakeS (C : Str) (n : Nat) (sp : FSpec) (W : WA) (Wz : WE) : WE := fun env S Q => W env S fun ds env1 S1 => Wz env1 S1 fun tz env2 S2 => (n ≤ ds.length + 1 ∧ ds.length < 1000000) ∧
  sp (tz.d :: .ref S2.length :: ds) (S2 ++ [.ins C [] []]) (fun t S3 => t = .val .non ∧ Q (.val (.ref S2.length)) env2 S3) (fun _ _ => False)
end
section
variable {X : Cx} {B : Hp} {g0 : Gh} {e z : Expr} {es : List Expr} {pos p kp : Pos} {kn C : Str}
end
end VC

set_option Elab.async false
set_option linter.all false
set_option maxRecDepth 100000
set_option maxHeartbeats 4000000
/-! CD: +, len, isinstance of instances of own classes. -/
namespace VC
open PySem PySem.Spec PyProof.Rows L2
section
variable {X : Cx} {CX : CXT} {k : Nat} {C f : Addr} {fd : FuncData} {ps : List Str} {sp : Sp} {E : XK} {a b : Expr} {ta tb : TE} {pos : Pos}
def tAddO (C : Addr) (sp : Sp) (E : XK) (ta tb : TE) : TE := fun σ H Q => ta σ H fun x H1 => tb σ H1 fun y H2 => ∃ p q dx dy fs gs, x = .ref p ∧ y = .ref q ∧ H2 p = some (.ins C dx fs) ∧ H2 q = some (.ins C dy gs) ∧ sp [.ref p, .ref q] H2 Q E
def rLenO (C : Addr) (sp : Sp) (E : XK) : List V → Hp → VK → Prop := fun xs H Q => ∃ p dx fs, xs = [.ref p] ∧ H p = some (.ins C dx fs) ∧ sp [.ref p] H (fun v H' => ∃ i : Int, v = .int i ∧ (0 ≤ i ∧ i < 2 ^ 63) ∧ Q (.int i) H') E
end
/-! ### the layer's rules -/
/-- the facts of a class's method that the machine calls -/
structure OwnV (P : Program) (w : World) (K : PySem.W.Frag) (mg : Str → Option Value) (base : Heap) (C m : Str) (n k : Nat) (sp : FSpec) : Prop where
  mono : MoF sp
  ex : ∃ (Ca f : Addr) (fd : FuncData) (ps : List Str), FnOk P w K mg base (L2N.CX P w) k f fd ps (SpOf mg (w, K) n sp) ∧ mg C = some (.ref Ca) ∧ PySem.W.findIn K (.ref Ca) m = some (some (.ref f)) ∧ PySem.W.isFn K (.ref f) = true ∧ PySem.W.selfFirst K Ca = true ∧ Binds K fd ps []
section
variable {X : Cx} {B : Hp} {g0 : Gh} {a b e : Expr} {pos p p2 : Pos}
def wAddO (C : Str) (sp : FSpec) (Wa Wb : WO) : WE := fun env S Q => Wa env S fun d env1 S1 => Wb env1 S1 fun e env2 S2 => ∃ (r1 : Nat) (ns : List Str) (xs : List D) (r2 : Nat) (ms : List Str) (ys : List D), d = .ref r1 ∧ e = .ref r2 ∧ S2[r1]? = some (.ins C ns xs) ∧ S2[r2]? = some (.ins C ms ys) ∧
  sp [.ref r1, .ref r2] S2 (fun t S3 => Q t env2 S3) (fun _ _ => False)
def wLenO (C : Str) (sp : FSpec) (Wo : WO) : WE := fun env S Q => Wo env S fun d env1 S1 => ∃ (r : Nat) (ns : List Str) (xs : List D), d = .ref r ∧ S1[r]? = some (.ins C ns xs) ∧ sp [.ref r] S1 (fun t S3 => ∃ i : Int, t = .val (.int i) ∧ (0 ≤ i ∧ i < 2 ^ 63) ∧ Q (.val (.int i)) env1 S3) (fun _ _ => False)
/-- what the machine's isinstance asks of an own class -/
structure OwnI (K : PySem.W.Frag) (C : Addr) : Prop where
  cl : L2.Cls K C
  ha : PySem.W.findIn K (.ref C) "__class__" = some (some (.builtin "object.__class__"))
  hn : PySem.W.specialIn K (.builtin "object.__class__") "__get__" = some (some (.builtin "getset_descriptor.__get__"))
  ht : PySem.W.takesIn K (.builtin "object.__class__") = some true
  hm : PySem.W.mroIn K C (.type "object") = some true
end
end VC

set_option Elab.async false
set_option linter.all false
set_option maxRecDepth 100000
set_option maxHeartbeats 4000000
/-! CE: a field as a target among others; isinstance of an own class. -/
namespace VC
open PySem PySem.Spec PyProof.Rows L2
section
variable {X : Cx} {B : Hp} {g0 : Gh} {e o : Expr} {pos p p2 : Pos}
def wIsiO (C : Str) (Wo : WO) : WE := fun env S Q => Wo env S fun d env1 S1 => ∃ (r : Nat) (ns : List Str) (xs : List D), d = .ref r ∧ S1[r]? = some (.ins C ns xs) ∧ Q (.val (.bl true)) env1 S1
/-- o.f as a target -/
def gFldT (K : PySem.W.Frag) (to : TE) (f : Str) : TG := fun y σ H Q => to σ H fun x H1 => ∃ a C dx fs, x = .ref a ∧ H1 a = some (.ins C dx fs) ∧ L2.Cls K C ∧ NoAttr K C f ∧ fs.length < 1000 ∧ Q σ (upd H1 a (.ins C dx (putF f y fs)))
def gFld (C f : Str) (Wo : WO) : WG := fun d env S Q => Wo env S fun od env1 S1 => ∃ (r : Nat) (ns : List Str) (xs : List VC.D), od = .ref r ∧ S1[r]? = some (.ins C ns xs) ∧ ns.length < 999 ∧ Q env1 (S1.set r (putI C ns xs f d))
end
end VC

set_option Elab.async false
set_option linter.all false
set_option maxRecDepth 100000
set_option maxHeartbeats 4000000
/-! M1: stages, memories, chains; what they do. -/
namespace VC
open PySem PySem.Spec PyProof.Rows L2
inductive Stg where
  | slew (u d : Int) | clip (l h : Int) | gate (l h : Int) | hold (w : Int)
deriving DecidableEq
inductive Mem where
  | one (i : Int) | two (i j : Int)
deriving DecidableEq
structure Chn where
  top : Int
  start : Int
  stages : List Stg
deriving DecidableEq
@[reducible] def Stg.d : Stg → D
  | .slew u d => .tup [.str "slew", .int u, .int d]
  | .clip l h => .tup [.str "clip", .int l, .int h]
  | .gate l h => .tup [.str "gate", .int l, .int h]
  | .hold w => .tup [.str "hold", .int w]
@[reducible] def Mem.d : Mem → D
  | .one i => .int i
  | .two i j => .tup [.int i, .int j]
@[reducible] def Chn.d (c : Chn) : D := .tup [.int c.top, .int c.start, .tup (c.stages.map Stg.d)]
@[reducible] def intsT (l : List Int) : D := .tup (l.map .int)
@[reducible] def memsT (l : List Mem) : D := .tup (l.map Mem.d)
def Stg.Ok (top : Int) : Stg → Prop
  | .slew u d => 0 ≤ u ∧ u ≤ 5 ∧ 0 ≤ d ∧ d ≤ 5
  | .clip l h => 0 ≤ l ∧ l ≤ top ∧ l ≤ h ∧ h ≤ top
  | .gate l h => 0 ≤ l ∧ l ≤ top ∧ l ≤ h ∧ h ≤ top
  | .hold w => 1 ≤ w ∧ w ≤ 2
def Stg.keep : Stg → Bool
  | .clip _ _ => false
  | _ => true
def keeps (ss : List Stg) : Nat := (ss.filter Stg.keep).length
structure Chn.Ok (c : Chn) : Prop where
  t1 : 1 ≤ c.top
  t5 : c.top ≤ 5
  s0 : 0 ≤ c.start
  st : c.start ≤ c.top
  len : c.stages.length ≤ 3
  ok : ∀ s ∈ c.stages, s.Ok c.top
  kp : keeps c.stages ≤ 2
/-- a level of the chain -/
def Lev (top x : Int) : Prop := 0 ≤ x ∧ x ≤ top
/-- a memory that the stage may have -/
def Stg.Fit (top : Int) : Stg → Mem → Prop
  | .slew _ _, .one i => 0 ≤ i ∧ i ≤ top
  | .clip _ _, .one i => i = 0
  | .gate _ _, .one i => i = 0 ∨ i = 1
  | .hold w, .two i j => 0 ≤ i ∧ i ≤ top ∧ 0 ≤ j ∧ j ≤ w
  | _, _ => False
inductive Fits (top : Int) : List Stg → List Mem → Prop
  | nil : Fits top [] []
  | cons {s m ss ms} : s.Fit top m → Fits top ss ms → Fits top (s :: ss) (m :: ms)
def btw (x l h : Int) : Int := if h < (if l > x then l else x) then h else (if l > x then l else x)
def opn (b x : Int) : Int := if decide (b ≤ x) = true then 1 else 0
def firstOf : Stg → Int → Int × Mem
  | .slew _ _, x => (x, .one x)
  | .clip l h, x => (btw x l h, .one 0)
  | .gate _ h, x => (x * opn h x, .one (opn h x))
  | .hold _, x => (x, .two x 0)
def moved : Stg → Mem → Int → Int × Mem
  | .slew u d, .one m, x => (btw x (m - d) (m + u), .one (btw x (m - d) (m + u)))
  | .clip l h, _, x => (btw x l h, .one 0)
  | .gate l h, .one m, x => (x * opn (if m = 1 then l else h) x, .one (opn (if m = 1 then l else h) x))
  | .hold w, .two a b, x => if 0 < b then (a, .two a (b - 1)) else (x, .two x (if x = a then 0 else w))
  | _, m, x => (x, m)
def firstAll : List Stg → Int → List Mem
  | [], _ => []
  | s :: ss, x => (firstOf s x).2 :: firstAll ss (firstOf s x).1
def step : List Stg → List Mem → Int → Int × List Mem
  | s :: ss, m :: ms, x => ((step ss ms (moved s m x).1).1, (moved s m x).2 :: (step ss ms (moved s m x).1).2)
  | _, _, x => (x, [])
def runs : List Stg → List Mem → List Int → List Int × List Mem
  | _, ms, [] => ([], ms)
  | ss, ms, x :: xs => ((step ss ms x).1 :: (runs ss (step ss ms x).2 xs).1, (runs ss (step ss ms x).2 xs).2)
def Chn.first (c : Chn) : List Mem := firstAll c.stages c.start
theorem btw_lev {x l h top : Int} (h0 : 0 ≤ l) (h1 : l ≤ h) (h2 : h ≤ top) : Lev top (btw x l h) := by
  unfold btw Lev; split <;> split <;> omega
theorem btw_lev2 {x l h top : Int} (hx : Lev top x) (hl : l ≤ top) (hh : 0 ≤ h) : Lev top (btw x l h) := by
  unfold btw Lev at *; repeat' split
  all_goals omega
theorem opn_01 (b x : Int) : opn b x = 0 ∨ opn b x = 1 := by unfold opn; split <;> simp
theorem opn_lev {b x top : Int} (hx : Lev top x) : Lev top (x * opn b x) := by
  unfold Lev at *
  rcases opn_01 b x with h | h <;> rw [h] <;> omega
theorem firstOf_ok {top x : Int} {s : Stg} (hs : s.Ok top) (hx : Lev top x) : Lev top (firstOf s x).1 ∧ s.Fit top (firstOf s x).2 := by
  cases s with
  | slew u d => exact ⟨hx, hx⟩
  | clip l h => obtain ⟨h1, h2, h3, h4⟩ := hs; exact ⟨btw_lev h1 h3 h4, rfl⟩
  | gate l h => exact ⟨opn_lev hx, opn_01 _ _⟩
  | hold w => obtain ⟨h1, h2⟩ := hs; exact ⟨hx, hx.1, hx.2, Int.le_refl 0, by omega⟩
theorem moved_ok {top x : Int} {s : Stg} {m : Mem} (hs : s.Ok top) (hm : s.Fit top m) (hx : Lev top x) : Lev top (moved s m x).1 ∧ s.Fit top (moved s m x).2 := by
  cases s with
  | slew u d =>
    cases m with
    | one i =>
      obtain ⟨h1, h2, h3, h4⟩ := hs; obtain ⟨k1, k2⟩ := hm
      have := btw_lev2 (l := i - d) (h := i + u) hx (by omega) (by omega)
      exact ⟨this, this⟩
    | two i j => exact hm.elim
  | clip l h => obtain ⟨h1, h2, h3, h4⟩ := hs; exact ⟨btw_lev h1 h3 h4, rfl⟩
  | gate l h =>
    cases m with
    | one i => exact ⟨opn_lev hx, opn_01 _ _⟩
    | two i j => exact hm.elim
  | hold w =>
    cases m with
    | one i => exact hm.elim
    | two i j =>
      obtain ⟨h1, h2⟩ := hs; obtain ⟨k1, k2, k3, k4⟩ := hm
      simp only [moved]
      split
      · exact ⟨⟨k1, k2⟩, k1, k2, by omega, by omega⟩
      · refine ⟨hx, hx.1, hx.2, ?_, ?_⟩
        · split <;> omega
        · split <;> omega
theorem firstAll_ok {top : Int} : ∀ {ss : List Stg} {x : Int}, (∀ s ∈ ss, s.Ok top) → Lev top x → Fits top ss (firstAll ss x)
  | [], _, _, _ => .nil
  | s :: ss, x, h, hx =>
    have k := firstOf_ok (h s (List.mem_cons_self ..)) hx
    .cons k.2 (firstAll_ok (fun s hs => h s (List.mem_cons_of_mem _ hs)) k.1)
theorem step_ok {top : Int} : ∀ {ss : List Stg} {ms : List Mem} {x : Int}, (∀ s ∈ ss, s.Ok top) → Fits top ss ms → Lev top x → Lev top (step ss ms x).1 ∧ Fits top ss (step ss ms x).2
  | _, _, x, _, .nil, hx => ⟨hx, .nil⟩
  | _, _, x, h, .cons h1 h2, hx =>
    have k := moved_ok (h _ (List.mem_cons_self ..)) h1 hx
    have r := step_ok (fun s hs => h s (List.mem_cons_of_mem _ hs)) h2 k.1
    ⟨r.1, .cons k.2 r.2⟩
theorem runs_ok {top : Int} {ss : List Stg} (h : ∀ s ∈ ss, s.Ok top) : ∀ {xs : List Int} {ms : List Mem}, Fits top ss ms → (∀ x ∈ xs, Lev top x) → (∀ x ∈ (runs ss ms xs).1, Lev top x) ∧ Fits top ss (runs ss ms xs).2
  | [], ms, hf, _ => ⟨fun _ h => by simp [runs] at h, hf⟩
  | x :: xs, ms, hf, hx => by
    have k := step_ok h hf (hx x (List.mem_cons_self ..))
    have r := runs_ok h k.2 (fun y hy => hx y (List.mem_cons_of_mem _ hy))
    refine ⟨fun y hy => ?_, r.2⟩
    simp only [runs, List.mem_cons] at hy
    rcases hy with rfl | hy
    · exact k.1
    · exact r.1 y hy
theorem Fits.len {top : Int} : ∀ {ss : List Stg} {ms : List Mem}, Fits top ss ms → ms.length = ss.length
  | _, _, .nil => rfl
  | _, _, .cons _ h => by rw [List.length_cons, List.length_cons, h.len]
theorem runs_len {ss : List Stg} : ∀ {xs : List Int} {ms : List Mem}, (runs ss ms xs).1.length = xs.length
  | [], _ => rfl
  | x :: xs, ms => by simp [runs, runs_len]
/-! as data -/
theorem map_inj {α : Type} {f : α → D} (hf : ∀ a b, f a = f b → a = b) : ∀ {l k : List α}, l.map f = k.map f → l = k
  | [], [], _ => rfl
  | [], _ :: _, h => by simp at h
  | _ :: _, [], h => by simp at h
  | a :: l, b :: k, h => by
    simp only [List.map_cons, List.cons.injEq] at h
    rw [hf _ _ h.1, map_inj hf h.2]
end VC

set_option Elab.async false
set_option linter.all false
set_option maxRecDepth 100000
set_option maxHeartbeats 4000000
/-! M2: the checks and the chain's walk, by their W's. -/
namespace VC
open PySem PySem.Spec PyProof.Rows L2
abbrev ENDS (R : T → Sto → Prop) : WEnds := { nx := fun _ s => R (.val .non) s, rt := R }
theorem ofbl {R : T → Sto → Prop} {S : Sto} {b c : Bool} (q : R (.val (.bl c)) S) (e : b = c) : R (.val (.bl b)) S := by rw [e]; exact q
theorem ofd {R : T → Sto → Prop} {S : Sto} {b c : D} (q : R (.val c) S) (e : b = c) : R (.val b) S := by rw [e]; exact q
def sp_is_from : FSpec := fun ds S R _ => ∃ a l h : Int, ds = [.int a, .int l, .int h] ∧ R (.val (.bl (decide (l ≤ a ∧ a ≤ h)))) S
theorem cl_in : (D.str "clip").cmp = true ∧ (D.tup [.str "clip", .str "gate"]).cmp = true := by decide +kernel
def sp_is_stage_of : FSpec := fun ds S R _ => ∃ (t : Int) (s : Stg), ds = [.int t, s.d] ∧ s.Ok t ∧ R (.val (.bl true)) S
def sp_keeping : FSpec := fun ds S R _ => ∃ (ss : List Stg), ds = [.tup (ss.map Stg.d)] ∧ ss.length ≤ 1000 ∧ R (.val (.int (keeps ss : Nat))) S
theorem keeps_fm (ss : List Stg) : (ss.filterMap fun s => if s.keep then some s.d else none).length = keeps ss := by
  unfold keeps
  induction ss with
  | nil => rfl
  | cons s ss ih =>
    rw [List.filterMap_cons, List.filter_cons]
    cases s.keep <;> simp [ih]
theorem vc_keeping (ds S R) (h : sp_keeping ds S R (fun _ _ => False)) : wf_keeping (ENDS R) (env0 2 ds) S := by
  obtain ⟨ss, rfl, hl, q⟩ := h
  ((try conv => whnf) <;> repeat ((first | (refine Ite.mt ?_ ?_; focus (first | rfl | (simp; done) | (simp; omega))) | (refine Ite.mf ?_ ?_; focus (first | rfl | (simp; done) | (simp; omega))) | (refine And.intro ?_ ?_; focus (first | rfl | decide | (simp; done) | (simp; omega) | omega))) <;> (try conv => whnf)))
  refine ⟨⟨rfl, by simp; omega⟩, ?_⟩
  refine lcW_pure Stg.d (fun s => if s.keep then some s.d else none) _ _ (fun s _ K acc hK => ?_) ?_
  · cases s <;> (((try conv => whnf) <;> repeat ((first | (refine Ite.mt ?_ ?_; focus (first | rfl | (simp; done) | (simp; omega))) | (refine Ite.mf ?_ ?_; focus (first | rfl | (simp; done) | (simp; omega))) | (refine And.intro ?_ ?_; focus (first | rfl | decide | (simp; done) | (simp; omega) | omega))) <;> (try conv => whnf))); simp only [Stg.keep] at hK; first | exact hK | (have hK : K (acc ++ []) _ _ := hK; rw [List.append_nil] at hK; exact hK))
  · ((try conv => whnf) <;> repeat ((first | (refine Ite.mt ?_ ?_; focus (first | rfl | (simp; done) | (simp; omega))) | (refine Ite.mf ?_ ?_; focus (first | rfl | (simp; done) | (simp; omega))) | (refine And.intro ?_ ?_; focus (first | rfl | decide | (simp; done) | (simp; omega) | omega))) <;> (try conv => whnf)))
    exact ofd q (by rw [keeps_fm])
def sp_is_chain_of : FSpec := fun ds S R _ => ∃ (c : Chn), ds = [c.d] ∧ c.Ok ∧ R (.val (.bl true)) S
theorem fm_rep {α : Type} (x : D) : ∀ l : List α, (l.filterMap fun _ => some x) = List.replicate l.length x
  | [] => rfl
  | _ :: l => by rw [List.filterMap_cons, fm_rep x l]; rfl
def sp_need_chain : FSpec := fun ds S R _ => ∃ (c : Chn), ds = [c.d] ∧ c.Ok ∧ R (.val .non) S
def Sig (top : Int) (n : Nat) (l : List Int) : Prop := (∀ x ∈ l, Lev top x) ∧ l.length ≤ n
def sp_are_levels : FSpec := fun ds S R _ => ∃ (t m : Int) (l : List Int), ds = [.int t, intsT l, .int m] ∧ (∀ x ∈ l, Lev t x) ∧ l.length ≤ m ∧ l.length ≤ 1000 ∧ R (.val (.bl true)) S
def sp_need_signal : FSpec := fun ds S R _ => ∃ (c : Chn) (l : List Int), ds = [c.d, intsT l] ∧ Sig c.top 40 l ∧ R (.val .non) S
/-- .. with the default -/
def sp_are_levels_2 : FSpec := fun ds S R E => sp_are_levels (ds ++ [.int 40]) S R E
def sp_between : FSpec := fun ds S R _ => ∃ a l h : Int, ds = [.int a, .int l, .int h] ∧ R (.val (.int (btw a l h))) S
def sp_first_of : FSpec := fun ds S R _ => ∃ (s : Stg) (x : Int), ds = [s.d, .int x] ∧ R (.val (.tup [.int (firstOf s x).1, (firstOf s x).2.d])) S
theorem th40 {n : Nat} (h : n ≤ 1000000) : n ≤ sizeLine := sz1000 h
def sp_first_state : FSpec := fun ds S R _ => ∃ c : Chn, ds = [c.d] ∧ c.Ok ∧ R (.val (memsT c.first)) S
def sp_moved : FSpec := fun ds S R _ => ∃ (t : Int) (s : Stg) (m : Mem) (x : Int), ds = [s.d, m.d, .int x] ∧ s.Fit t m ∧ R (.val (.tup [.int (moved s m x).1, (moved s m x).2.d])) S
theorem zipD_map {α β : Type} {f : α → D} {g : β → D} : ∀ {as : List α} {bs : List β}, zipD (as.map f) (bs.map g) = (as.zip bs).map fun p => .tup [f p.1, g p.2]
  | [], _ => by simp [zipD]
  | _ :: _, [] => by simp [zipD]
  | a :: as, b :: bs => by simp [zipD, zipD_map]
def sp_step : FSpec := fun ds S R _ => ∃ (t : Int) (ss : List Stg) (ms : List Mem) (x : Int), ds = [.tup (ss.map Stg.d), memsT ms, .int x] ∧ Fits t ss ms ∧ ss.length ≤ 1000 ∧ R (.val (.tup [.int (step ss ms x).1, memsT (step ss ms x).2])) S
def sp_run : FSpec := fun ds S R _ => ∃ (t : Int) (ss : List Stg) (ms : List Mem) (xs : List Int), ds = [.tup (ss.map Stg.d), memsT ms, intsT xs] ∧ Fits t ss ms ∧ ss.length ≤ 1000 ∧ (∀ s ∈ ss, s.Ok t) ∧ (∀ x ∈ xs, Lev t x) ∧ xs.length ≤ 100000 ∧ R (.val (.tup [intsT (runs ss ms xs).1, memsT (runs ss ms xs).2])) S
def sp_output : FSpec := fun ds S R _ => ∃ (c : Chn) (xs : List Int), ds = [c.d, intsT xs] ∧ c.Ok ∧ Sig c.top 40 xs ∧ R (.val (intsT (runs c.stages c.first xs).1)) S
def sp_state : FSpec := fun ds S R _ => ∃ (c : Chn) (xs : List Int), ds = [c.d, intsT xs] ∧ c.Ok ∧ Sig c.top 40 xs ∧ R (.val (memsT (runs c.stages c.first xs).2)) S
def sp_passes : FSpec := fun ds S R _ => ∃ (c : Chn) (xs : List Int), ds = [c.d, intsT xs] ∧ c.Ok ∧ Sig c.top 40 xs ∧ R (.val (.bl (decide ((runs c.stages c.first xs).1 = xs)))) S
end VC

set_option Elab.async false
set_option linter.all false
set_option maxRecDepth 100000
set_option maxHeartbeats 4000000
/-! M3: the laws' decks and helpers. -/
namespace VC
open PySem PySem.Spec PyProof.Rows L2
def DeckM (n : Int) (m : M) : Prop := ∃ a b c : Int, m = .lst [.int a, .int b, .int c] ∧ 0 ≤ b ∧ b < 2147483579 ∧ 0 ≤ c ∧ c ≤ n
def Deck (n : Int) (r : Nat) (S : Sto) : Prop := ∃ m, S[r]? = some m ∧ DeckM n m
def But1 (r : Nat) (S S' : Sto) : Prop := S'.length = S.length ∧ ∀ j, j ≠ r → S'[j]? = S[j]?
def sp__law_deck : FSpec := fun ds S R _ => ∃ x t : Int, ds = [.int x, .int t] ∧ 0 ≤ t ∧ ∀ m, DeckM t m → R (.own m) S
theorem vc__law_deck (ds S R) (h : sp__law_deck ds S R (fun _ _ => False)) : wf_law_deck (ENDS R) (env0 2 ds) S := by
  obtain ⟨x, t, rfl, h0, q⟩ := h
  have b0 : 0 ≤ x % 2147483579 := Int.emod_nonneg _ (by decide)
  have b1 : x % 2147483579 < 2147483579 := Int.emod_lt_of_pos _ (by decide)
  ((try conv => whnf) <;> repeat ((first | (refine Ite.mt ?_ ?_; focus (first | rfl | (simp; done) | (simp; omega))) | (refine Ite.mf ?_ ?_; focus (first | rfl | (simp; done) | (simp; omega))) | (refine And.intro ?_ ?_; focus (first | rfl | decide | (simp; done) | (simp; omega) | omega))) <;> (try conv => whnf)))
  refine ⟨by unfold CPow; decide, ?_⟩
  (conv => whnf)
  refine Ite.intro (fun hc => ?_) (fun hc => ?_)
  · ((try conv => whnf) <;> repeat ((first | (refine Ite.mt ?_ ?_; focus (first | rfl | (simp; done) | (simp; omega))) | (refine Ite.mf ?_ ?_; focus (first | rfl | (simp; done) | (simp; omega))) | (refine And.intro ?_ ?_; focus (first | rfl | decide | (simp; done) | (simp; omega) | omega))) <;> (try conv => whnf)))
    refine ⟨by unfold CPow; decide, ?_⟩
    ((try conv => whnf) <;> repeat ((first | (refine Ite.mt ?_ ?_; focus (first | rfl | (simp; done) | (simp; omega))) | (refine Ite.mf ?_ ?_; focus (first | rfl | (simp; done) | (simp; omega))) | (refine And.intro ?_ ?_; focus (first | rfl | decide | (simp; done) | (simp; omega) | omega))) <;> (try conv => whnf)))
    exact q _ ⟨_, _, _, rfl, b0, b1, h0, Int.le_refl _⟩
  · ((try conv => whnf) <;> repeat ((first | (refine Ite.mt ?_ ?_; focus (first | rfl | (simp; done) | (simp; omega))) | (refine Ite.mf ?_ ?_; focus (first | rfl | (simp; done) | (simp; omega))) | (refine And.intro ?_ ?_; focus (first | rfl | decide | (simp; done) | (simp; omega) | omega))) <;> (try conv => whnf)))
    exact q _ ⟨_, _, _, rfl, b0, b1, h0, Int.le_refl _⟩
theorem dr_ref {S : Sto} {r : Nat} {m : M} (h : S[r]? = some m) : dr S (.ref r) = m.d := by simp only [dr, h]
theorem get_set {S : Sto} {r : Nat} {m0 : M} (m : M) (h : S[r]? = some m0) : (S.set r m)[r]? = some m := List.getElem?_set_self (List.getElem?_eq_some_iff.mp h).1
theorem Deck.set {S : Sto} {r : Nat} {m0 m : M} {n : Int} (h : S[r]? = some m0) (hm : DeckM n m) : Deck n r (S.set r m) := ⟨m, get_set m h, hm⟩
theorem But1.set {S : Sto} {r : Nat} {m0 m : M} (h : S[r]? = some m0) : But1 r S (S.set r m) := ⟨List.length_set, fun j hj => List.getElem?_set_ne (Ne.symm hj)⟩
theorem But1.refl (r : Nat) (S : Sto) : But1 r S S := ⟨rfl, fun _ _ => rfl⟩
theorem But1.trans {r : Nat} {S S1 S2 : Sto} (a : But1 r S S1) (b : But1 r S1 S2) : But1 r S S2 := ⟨b.1.trans a.1, fun j hj => (b.2 j hj).trans (a.2 j hj)⟩
theorem Deck.mono {n k : Int} {r : Nat} {S : Sto} (h : Deck n r S) (hk : n ≤ k) : Deck k r S := let ⟨m, h1, a, b, c, e, h2, h3, h4, h5⟩ := h; ⟨m, h1, a, b, c, e, h2, h3, h4, Int.le_trans h5 hk⟩
def sp__law_pick : FSpec := fun ds S R _ => ∃ (r : Nat) (lim n : Int), ds = [.ref r, .int lim] ∧ Deck n r S ∧ n < 2 ^ 32 ∧ 0 < lim ∧ lim < 1000000 ∧ ∀ (k : Int) S', 0 ≤ k → k < lim → Deck (n + 1) r S' → But1 r S S' → R (.val (.int k)) S'
theorem vc__law_pick (ds S R) (h : sp__law_pick ds S R (fun _ _ => False)) : wf_law_pick (ENDS R) (env0 4 ds) S := by
  obtain ⟨r, lim, n, rfl, ⟨m, hS, a, b, c, rfl, b0, b1, c0, c1⟩, hn, l0, l1, q⟩ := h
  ((try conv => whnf) <;> repeat ((first | (refine Ite.mt ?_ ?_; focus (first | rfl | (simp; done) | (simp; omega))) | (refine Ite.mf ?_ ?_; focus (first | rfl | (simp; done) | (simp; omega))) | (refine And.intro ?_ ?_; focus (first | rfl | decide | (simp; done) | (simp; omega) | omega))) <;> (try conv => whnf)))
  rw [dr_ref hS]
  (conv => whnf)
  refine Ite.intro (fun hc => ?_) (fun hc => ?_)
  · ((try conv => whnf) <;> repeat ((first | (refine Ite.mt ?_ ?_; focus (first | rfl | (simp; done) | (simp; omega))) | (refine Ite.mf ?_ ?_; focus (first | rfl | (simp; done) | (simp; omega))) | (refine And.intro ?_ ?_; focus (first | rfl | decide | (simp; done) | (simp; omega) | omega))) <;> (try conv => whnf)))
    rw [dr_ref hS]
    (conv => whnf)
    refine ⟨l0, ?_⟩
    ((try conv => whnf) <;> repeat ((first | (refine Ite.mt ?_ ?_; focus (first | rfl | (simp; done) | (simp; omega))) | (refine Ite.mf ?_ ?_; focus (first | rfl | (simp; done) | (simp; omega))) | (refine And.intro ?_ ?_; focus (first | rfl | decide | (simp; done) | (simp; omega) | omega))) <;> (try conv => whnf)))
    rw [dr_ref hS]
    (conv => whnf)
    refine ⟨⟨l0, by omega⟩, ?_⟩
    ((try conv => whnf) <;> repeat ((first | (refine Ite.mt ?_ ?_; focus (first | rfl | (simp; done) | (simp; omega))) | (refine Ite.mf ?_ ?_; focus (first | rfl | (simp; done) | (simp; omega))) | (refine And.intro ?_ ?_; focus (first | rfl | decide | (simp; done) | (simp; omega) | omega))) <;> (try conv => whnf)))
    rw [hS]
    ((try conv => whnf) <;> repeat ((first | (refine Ite.mt ?_ ?_; focus (first | rfl | (simp; done) | (simp; omega))) | (refine Ite.mf ?_ ?_; focus (first | rfl | (simp; done) | (simp; omega))) | (refine And.intro ?_ ?_; focus (first | rfl | decide | (simp; done) | (simp; omega) | omega))) <;> (try conv => whnf)))
    exact q _ _ (Int.emod_nonneg _ (by omega)) (Int.emod_lt_of_pos _ l0) (Deck.set hS ⟨_, _, _, rfl, b0, b1, c0, by omega⟩) (But1.set hS)
  · ((try conv => whnf) <;> repeat ((first | (refine Ite.mt ?_ ?_; focus (first | rfl | (simp; done) | (simp; omega))) | (refine Ite.mf ?_ ?_; focus (first | rfl | (simp; done) | (simp; omega))) | (refine And.intro ?_ ?_; focus (first | rfl | decide | (simp; done) | (simp; omega) | omega))) <;> (try conv => whnf)))
    rw [dr_ref hS]
    ((try conv => whnf) <;> repeat ((first | (refine Ite.mt ?_ ?_; focus (first | rfl | (simp; done) | (simp; omega))) | (refine Ite.mf ?_ ?_; focus (first | rfl | (simp; done) | (simp; omega))) | (refine And.intro ?_ ?_; focus (first | rfl | decide | (simp; done) | (simp; omega) | omega))) <;> (try conv => whnf)))
    rw [hS]
    ((try conv => whnf) <;> repeat ((first | (refine Ite.mt ?_ ?_; focus (first | rfl | (simp; done) | (simp; omega))) | (refine Ite.mf ?_ ?_; focus (first | rfl | (simp; done) | (simp; omega))) | (refine And.intro ?_ ?_; focus (first | rfl | decide | (simp; done) | (simp; omega) | omega))) <;> (try conv => whnf)))
    have hS2 := get_set (M.lst ([D.int a, D.int b, D.int c].set 2 (T.val (D.int (c + 1))).d)) hS
    rw [dr_ref hS2]
    ((try conv => whnf) <;> repeat ((first | (refine Ite.mt ?_ ?_; focus (first | rfl | (simp; done) | (simp; omega))) | (refine Ite.mf ?_ ?_; focus (first | rfl | (simp; done) | (simp; omega))) | (refine And.intro ?_ ?_; focus (first | rfl | decide | (simp; done) | (simp; omega) | omega))) <;> (try conv => whnf)))
    rw [dr_ref hS2]
    ((try conv => whnf) <;> repeat ((first | (refine Ite.mt ?_ ?_; focus (first | rfl | (simp; done) | (simp; omega))) | (refine Ite.mf ?_ ?_; focus (first | rfl | (simp; done) | (simp; omega))) | (refine And.intro ?_ ?_; focus (first | rfl | decide | (simp; done) | (simp; omega) | omega))) <;> (try conv => whnf)))
    refine ⟨by right; constructor <;> omega, ?_⟩
    (conv => whnf)
    refine ⟨⟨by decide, by decide, by omega⟩, ?_⟩
    ((try conv => whnf) <;> repeat ((first | (refine Ite.mt ?_ ?_; focus (first | rfl | (simp; done) | (simp; omega))) | (refine Ite.mf ?_ ?_; focus (first | rfl | (simp; done) | (simp; omega))) | (refine And.intro ?_ ?_; focus (first | rfl | decide | (simp; done) | (simp; omega) | omega))) <;> (try conv => whnf)))
    have n0 : 0 ≤ (b + 15485867 * (c + 1)) ^ 5 % 2147483647 := Int.emod_nonneg _ (by decide)
    have n1 : (b + 15485867 * (c + 1)) ^ 5 % 2147483647 < 2147483647 := Int.emod_lt_of_pos _ (by decide)
    rw [dr_ref hS2]
    (conv => whnf)
    refine ⟨by right; constructor <;> omega, ?_⟩
    (conv => whnf)
    refine ⟨⟨by decide, by decide, ?_⟩, ?_⟩
    · show Int.natAbs ((b + 15485867 * (c + 1)) ^ 5 % 2147483647 + 7919 * (c + 1)) < _
      omega
    ((try conv => whnf) <;> repeat ((first | (refine Ite.mt ?_ ?_; focus (first | rfl | (simp; done) | (simp; omega))) | (refine Ite.mf ?_ ?_; focus (first | rfl | (simp; done) | (simp; omega))) | (refine And.intro ?_ ?_; focus (first | rfl | decide | (simp; done) | (simp; omega) | omega))) <;> (try conv => whnf)))
    refine ⟨by unfold CDiv; decide, ?_⟩
    ((try conv => whnf) <;> repeat ((first | (refine Ite.mt ?_ ?_; focus (first | rfl | (simp; done) | (simp; omega))) | (refine Ite.mf ?_ ?_; focus (first | rfl | (simp; done) | (simp; omega))) | (refine And.intro ?_ ?_; focus (first | rfl | decide | (simp; done) | (simp; omega) | omega))) <;> (try conv => whnf)))
    exact q _ _ (Int.emod_nonneg _ (by omega)) (Int.emod_lt_of_pos _ l0) (Deck.set hS ⟨_, _, _, rfl, b0, b1, by omega, by omega⟩) (But1.set hS)

def sp__law_bool : FSpec := fun ds S R _ => ∃ a b : Bool, ds = [.bl a, .bl b] ∧ R (.val (.bl (a == b))) S
mutual
/-- data of depth n at most -/
def datd : D → Nat → Bool
  | .non, _ => true
  | .bl _, _ => true
  | .int _, _ => true
  | .str x, _ => PyData.strOk x
  | .tup xs, n => match n with
    | 0 => false
    | n + 1 => decide (xs.length ≤ 1000000) && datds xs n
  | .lst xs, n => match n with
    | 0 => false
    | n + 1 => decide (xs.length ≤ 1000000) && datds xs n
  | .dct _ _, _ => false
  | .ref _, _ => false
  | .fn _, _ => false
  | .kst _, _ => false
  | .opq, _ => false
def datds : List D → Nat → Bool
  | [], _ => true
  | x :: xs, n => datd x n && datds xs n
end
mutual
theorem datd_lay : ∀ (d : D) (n : Nat), datd d n = true → d.isData = true ∧ d.pd.canLay0 = true ∧ d.pd.depth ≤ n
  | .non, _, _ => by simp [D.isData, D.pd, PyData.canLay0, PyData.depth]
  | .int _, _, _ => by simp [D.isData, D.pd, PyData.canLay0, PyData.depth]
  | .bl _, _, _ => by simp [D.isData, D.pd, PyData.canLay0, PyData.depth]
  | .str x, _, h => by simp [datd] at h; simp [D.isData, D.pd, PyData.canLay0, PyData.depth, h]
  | .tup xs, n, h => by
    cases n with
    | zero => simp [datd] at h
    | succ n =>
      simp only [datd, Bool.and_eq_true] at h
      obtain ⟨h1, h2, h3⟩ := datds_lay xs n h.2
      simp only [D.isData, D.pd, PyData.canLay0, PyData.depth]
      exact ⟨h1, h2, Nat.succ_le_succ h3⟩
  | .lst xs, n, h => by
    cases n with
    | zero => simp [datd] at h
    | succ n =>
      simp only [datd, Bool.and_eq_true] at h
      obtain ⟨h1, h2, h3⟩ := datds_lay xs n h.2
      simp only [D.isData, D.pd, PyData.canLay0, PyData.depth]
      exact ⟨h1, h2, Nat.succ_le_succ h3⟩
  | .dct _ _, _, h => by simp [datd] at h
  | .ref _, _, h => by simp [datd] at h
  | .fn _, _, h => by simp [datd] at h
  | .kst _, _, h => by simp [datd] at h
  | .opq, _, h => by simp [datd] at h
theorem datds_lay : ∀ (ds : List D) (n : Nat), datds ds n = true → D.allData ds = true ∧ PyData.canLayAll0 (D.pds ds) = true ∧ PyData.depthAll (D.pds ds) ≤ n
  | [], _, _ => by simp [D.allData, D.pds, PyData.canLayAll0, PyData.depthAll]
  | x :: xs, n, h => by
    simp only [datds, Bool.and_eq_true] at h
    obtain ⟨h1, h2, h3⟩ := datd_lay x n h.1
    obtain ⟨k1, k2, k3⟩ := datds_lay xs n h.2
    simp only [D.allData, D.pds, PyData.canLayAll0, PyData.depthAll, Bool.and_eq_true]
    exact ⟨⟨h1, k1⟩, ⟨h2, k2⟩, Nat.max_le.mpr ⟨h3, k3⟩⟩
end
mutual
theorem eqv_refl : ∀ (d : D) (n : Nat), datd d n = true → D.eqv d d = true
  | .non, _, _ => rfl
  | .bl b, _, _ => by simp [D.eqv]
  | .int _, _, _ => by simp [D.eqv]
  | .str _, _, _ => by simp [D.eqv]
  | .tup xs, n, h => by
    cases n with
    | zero => simp [datd] at h
    | succ n =>
      simp only [datd, Bool.and_eq_true] at h
      simp only [D.eqv]
      exact eqvs_refl xs n h.2
  | .lst xs, n, h => by
    cases n with
    | zero => simp [datd] at h
    | succ n =>
      simp only [datd, Bool.and_eq_true] at h
      simp only [D.eqv]
      exact eqvs_refl xs n h.2
  | .dct _ _, _, h => by simp [datd] at h
  | .ref _, _, h => by simp [datd] at h
  | .fn _, _, h => by simp [datd] at h
  | .kst _, _, h => by simp [datd] at h
  | .opq, _, h => by simp [datd] at h
theorem eqvs_refl : ∀ (d : List D) (n : Nat), datds d n = true → D.eqvs d d = true
  | [], _, _ => rfl
  | x :: xs, n, h => by
    simp only [datds, Bool.and_eq_true] at h
    simp only [D.eqvs, eqv_refl x n h.1, eqvs_refl xs n h.2, Bool.and_self]
end
theorem datd_cmp {d : D} {n : Nat} (h : datd d n = true) (hn : n ≤ 64) : d.cmp = true := by
  obtain ⟨h1, h2, h3⟩ := datd_lay d n h
  simp only [D.cmp, SeqAt.shaped, Bool.and_eq_true, decide_eq_true_eq]
  exact ⟨h1, h2, Nat.le_trans h3 hn⟩
theorem datds_get {n : Nat} : ∀ {ds : List D} {i : Nat} {d : D}, datds ds n = true → ds[i]? = some d → datd d n = true
  | [], i, d, _, h => by simp at h
  | x :: xs, 0, d, h, e => by
    simp only [datds, Bool.and_eq_true] at h
    simp at e; rw [← e]; exact h.1
  | x :: xs, i + 1, d, h, e => by
    simp only [datds, Bool.and_eq_true] at h
    exact datds_get h.2 (by simpa using e)
theorem datds_all {n : Nat} : ∀ {ds : List D}, (∀ d ∈ ds, datd d n = true) → datds ds n = true
  | [], _ => rfl
  | x :: xs, h => by
    simp only [datds, Bool.and_eq_true]
    exact ⟨h x (List.mem_cons_self ..), datds_all fun d hd => h d (List.mem_cons_of_mem _ hd)⟩
def sortD : D → Option Int
  | .bl _ => some 1
  | .int _ => some 2
  | .str _ => some 3
  | .lst _ => some 4
  | .tup _ => some 5
  | .non => some 6
  | .dct _ _ => none
  | .ref _ => none
  | .fn _ => none
  | .kst _ => none
  | .opq => none
def sp__law_sort : FSpec := fun ds S R _ => ∃ (d : D) (k : Int), ds = [d] ∧ sortD d = some k ∧ R (.val (.int k)) S
theorem vc__law_sort (ds S R) (h : sp__law_sort ds S R (fun _ _ => False)) : wf_law_sort (ENDS R) (env0 1 ds) S := by
  obtain ⟨d, k, rfl, hk, q⟩ := h
  cases d <;> simp only [sortD, Option.some.injEq, reduceCtorEq] at hk <;> subst hk <;> (((try conv => whnf) <;> repeat ((first | (refine Ite.mt ?_ ?_; focus (first | rfl | (simp; done) | (simp; omega))) | (refine Ite.mf ?_ ?_; focus (first | rfl | (simp; done) | (simp; omega))) | (refine And.intro ?_ ?_; focus (first | rfl | decide | (simp; done) | (simp; omega) | omega))) <;> (try conv => whnf))); exact q)
theorem atD_nat {ds : List D} {i : Nat} {d : D} (h : ds[i]? = some d) : atD ds (i : Int) = some d := by
  show nthD ds i = some d
  rw [nthD_eq]; exact h
/-- both arguments the same -/
def sp__law_same (n : Nat) : FSpec := fun ds S R _ => ∃ d : D, ds = [d, d] ∧ datd d n = true ∧ R (.val (.bl true)) S
theorem vc__law_same (n : Nat) (hn : n ≤ 63) (sp : FSpec) (hsp : ∀ d S R, (∃ m, n = m + 1 ∧ datd d m = true) → R (.val (.bl true)) S → sp [d, d] S R (fun _ _ => False)) (ds S R) (h : sp__law_same n ds S R (fun _ _ => False)) : wf_law_same sp__law_sort sp (ENDS R) (env0 4 ds) S := by
  obtain ⟨d, rfl, hd, q⟩ := h
  have hc := datd_cmp hd (Nat.le_trans hn (by decide))
  have hr := eqv_refl d n hd
  have seq : ∀ (mk : List D → D) (xs : List D), (d = mk xs) → ((mk = .tup) ∨ (mk = .lst)) → wf_law_same sp__law_sort sp (ENDS R) (env0 4 [d, d]) S := by
    intro mk xs e hmk
    subst e
    obtain ⟨m, rfl, hl, hx⟩ : ∃ m, n = m + 1 ∧ xs.length ≤ 1000000 ∧ datds xs m = true := by
      cases n with
      | zero => rcases hmk with rfl | rfl <;> simp [datd] at hd
      | succ m =>
        refine ⟨m, rfl, ?_⟩
        rcases hmk with rfl | rfl <;> simpa [datd] using hd
    have key : ∀ (Q : List D → VEnv → Sto → Prop), Q [] [some (.val (mk xs)), some (.val (mk xs)), none, none] S → lcW [2, 3] (gT (gCs (gN 2) (gCs (gN 3) gNl))) (wNot (wTst (wCall 2 sp (wAC (wV 3) (wAC (wB opIxX (oV 1) (oV 2)) wA0))))) (wV 2)
        (enumD 0 xs) [] [some (.val (mk xs)), some (.val (mk xs)), none, none] S Q := by
      intro Q hQ
      refine lcW_ind (fun items acc e s => ∃ i, items = enumD i (xs.drop i) ∧ acc = [] ∧ e = [some (.val (mk xs)), some (.val (mk xs)), none, none] ∧ s = S) ?_ ?_ ⟨0, rfl, rfl, rfl, rfl⟩
      · rintro acc e s ⟨i, _, rfl, rfl, rfl⟩
        exact hQ
      · rintro d ds acc e s K ⟨i, h1, rfl, rfl, rfl⟩ hK
        cases hd' : xs.drop i with
        | nil => rw [hd'] at h1; simp [enumD] at h1
        | cons x r =>
          rw [hd'] at h1
          simp only [enumD, List.cons.injEq] at h1
          obtain ⟨rfl, rfl⟩ := h1
          have hi : xs[i]? = some x := by
            have := List.getElem?_drop (xs := xs) (i := i) (j := 0)
            rw [hd'] at this
            simpa using this.symm
          have hr' : xs.drop (i + 1) = r := by
            rw [← List.drop_drop, hd']; rfl
          rcases hmk with rfl | rfl
          · (conv => whnf)
            rw [atD_nat hi]
            ((try conv => whnf) <;> repeat ((first | (refine Ite.mt ?_ ?_; focus (first | rfl | (simp; done) | (simp; omega))) | (refine Ite.mf ?_ ?_; focus (first | rfl | (simp; done) | (simp; omega))) | (refine And.intro ?_ ?_; focus (first | rfl | decide | (simp; done) | (simp; omega) | omega))) <;> (try conv => whnf)))
            refine hsp x _ _ ⟨m, rfl, datds_get hx hi⟩ ?_
            ((try conv => whnf) <;> repeat ((first | (refine Ite.mt ?_ ?_; focus (first | rfl | (simp; done) | (simp; omega))) | (refine Ite.mf ?_ ?_; focus (first | rfl | (simp; done) | (simp; omega))) | (refine And.intro ?_ ?_; focus (first | rfl | decide | (simp; done) | (simp; omega) | omega))) <;> (try conv => whnf)))
            exact hK _ _ _ ⟨i + 1, by rw [hr'], rfl, rfl, rfl⟩
          · (conv => whnf)
            rw [atD_nat hi]
            ((try conv => whnf) <;> repeat ((first | (refine Ite.mt ?_ ?_; focus (first | rfl | (simp; done) | (simp; omega))) | (refine Ite.mf ?_ ?_; focus (first | rfl | (simp; done) | (simp; omega))) | (refine And.intro ?_ ?_; focus (first | rfl | decide | (simp; done) | (simp; omega) | omega))) <;> (try conv => whnf)))
            refine hsp x _ _ ⟨m, rfl, datds_get hx hi⟩ ?_
            ((try conv => whnf) <;> repeat ((first | (refine Ite.mt ?_ ?_; focus (first | rfl | (simp; done) | (simp; omega))) | (refine Ite.mf ?_ ?_; focus (first | rfl | (simp; done) | (simp; omega))) | (refine And.intro ?_ ?_; focus (first | rfl | decide | (simp; done) | (simp; omega) | omega))) <;> (try conv => whnf)))
            exact hK _ _ _ ⟨i + 1, by rw [hr'], rfl, rfl, rfl⟩
    rcases hmk with rfl | rfl
    · ((try conv => whnf) <;> repeat ((first | (refine Ite.mt ?_ ?_; focus (first | rfl | (simp; done) | (simp; omega))) | (refine Ite.mf ?_ ?_; focus (first | rfl | (simp; done) | (simp; omega))) | (refine And.intro ?_ ?_; focus (first | rfl | decide | (simp; done) | (simp; omega) | omega))) <;> (try conv => whnf)))
      refine ⟨_, _, rfl, rfl, ?_⟩
      (conv => whnf)
      refine ⟨rfl, _, _, rfl, rfl, ?_⟩
      ((try conv => whnf) <;> repeat ((first | (refine Ite.mt ?_ ?_; focus (first | rfl | (simp; done) | (simp; omega))) | (refine Ite.mf ?_ ?_; focus (first | rfl | (simp; done) | (simp; omega))) | (refine And.intro ?_ ?_; focus (first | rfl | decide | (simp; done) | (simp; omega) | omega))) <;> (try conv => whnf)))
      refine ⟨_, _, rfl, rfl, ?_⟩
      ((try conv => whnf) <;> repeat ((first | (refine Ite.mt ?_ ?_; focus (first | rfl | (simp; done) | (simp; omega))) | (refine Ite.mf ?_ ?_; focus (first | rfl | (simp; done) | (simp; omega))) | (refine And.intro ?_ ?_; focus (first | rfl | decide | (simp; done) | (simp; omega) | omega))) <;> (try conv => whnf)))
      refine ⟨_, _, rfl, rfl, ?_⟩
      ((try conv => whnf) <;> repeat ((first | (refine Ite.mt ?_ ?_; focus (first | rfl | (simp; done) | (simp; omega))) | (refine Ite.mf ?_ ?_; focus (first | rfl | (simp; done) | (simp; omega))) | (refine And.intro ?_ ?_; focus (first | rfl | decide | (simp; done) | (simp; omega) | omega))) <;> (try conv => whnf)))
      refine ⟨⟨rfl, by rw [enumD_len]; exact hl⟩, ?_⟩
      refine key _ ?_
      ((try conv => whnf) <;> repeat ((first | (refine Ite.mt ?_ ?_; focus (first | rfl | (simp; done) | (simp; omega))) | (refine Ite.mf ?_ ?_; focus (first | rfl | (simp; done) | (simp; omega))) | (refine And.intro ?_ ?_; focus (first | rfl | decide | (simp; done) | (simp; omega) | omega))) <;> (try conv => whnf)))
      refine ⟨⟨rfl, rfl⟩, ?_⟩
      exact ofbl q rfl
    · ((try conv => whnf) <;> repeat ((first | (refine Ite.mt ?_ ?_; focus (first | rfl | (simp; done) | (simp; omega))) | (refine Ite.mf ?_ ?_; focus (first | rfl | (simp; done) | (simp; omega))) | (refine And.intro ?_ ?_; focus (first | rfl | decide | (simp; done) | (simp; omega) | omega))) <;> (try conv => whnf)))
      refine ⟨_, _, rfl, rfl, ?_⟩
      (conv => whnf)
      refine ⟨rfl, _, _, rfl, rfl, ?_⟩
      ((try conv => whnf) <;> repeat ((first | (refine Ite.mt ?_ ?_; focus (first | rfl | (simp; done) | (simp; omega))) | (refine Ite.mf ?_ ?_; focus (first | rfl | (simp; done) | (simp; omega))) | (refine And.intro ?_ ?_; focus (first | rfl | decide | (simp; done) | (simp; omega) | omega))) <;> (try conv => whnf)))
      refine ⟨_, _, rfl, rfl, ?_⟩
      ((try conv => whnf) <;> repeat ((first | (refine Ite.mt ?_ ?_; focus (first | rfl | (simp; done) | (simp; omega))) | (refine Ite.mf ?_ ?_; focus (first | rfl | (simp; done) | (simp; omega))) | (refine And.intro ?_ ?_; focus (first | rfl | decide | (simp; done) | (simp; omega) | omega))) <;> (try conv => whnf)))
      refine ⟨_, _, rfl, rfl, ?_⟩
      ((try conv => whnf) <;> repeat ((first | (refine Ite.mt ?_ ?_; focus (first | rfl | (simp; done) | (simp; omega))) | (refine Ite.mf ?_ ?_; focus (first | rfl | (simp; done) | (simp; omega))) | (refine And.intro ?_ ?_; focus (first | rfl | decide | (simp; done) | (simp; omega) | omega))) <;> (try conv => whnf)))
      refine ⟨⟨rfl, by rw [enumD_len]; exact hl⟩, ?_⟩
      refine key _ ?_
      ((try conv => whnf) <;> repeat ((first | (refine Ite.mt ?_ ?_; focus (first | rfl | (simp; done) | (simp; omega))) | (refine Ite.mf ?_ ?_; focus (first | rfl | (simp; done) | (simp; omega))) | (refine And.intro ?_ ?_; focus (first | rfl | decide | (simp; done) | (simp; omega) | omega))) <;> (try conv => whnf)))
      refine ⟨⟨rfl, rfl⟩, ?_⟩
      exact ofbl q rfl
  cases d with
  | tup xs => exact seq .tup xs rfl (.inl rfl)
  | lst xs => exact seq .lst xs rfl (.inr rfl)
  | dct _ _ => simp [datd] at hd
  | ref _ => simp [datd] at hd
  | fn _ => simp [datd] at hd
  | kst _ => simp [datd] at hd
  | opq => simp [datd] at hd
  | non =>
    ((try conv => whnf) <;> repeat ((first | (refine Ite.mt ?_ ?_; focus (first | rfl | (simp; done) | (simp; omega))) | (refine Ite.mf ?_ ?_; focus (first | rfl | (simp; done) | (simp; omega))) | (refine And.intro ?_ ?_; focus (first | rfl | decide | (simp; done) | (simp; omega) | omega))) <;> (try conv => whnf)))
    refine ⟨_, _, rfl, rfl, ?_⟩
    (conv => whnf)
    refine ⟨rfl, _, _, rfl, rfl, ?_⟩
    ((try conv => whnf) <;> repeat ((first | (refine Ite.mt ?_ ?_; focus (first | rfl | (simp; done) | (simp; omega))) | (refine Ite.mf ?_ ?_; focus (first | rfl | (simp; done) | (simp; omega))) | (refine And.intro ?_ ?_; focus (first | rfl | decide | (simp; done) | (simp; omega) | omega))) <;> (try conv => whnf)))
    refine ⟨_, _, rfl, rfl, ?_⟩
    ((try conv => whnf) <;> repeat ((first | (refine Ite.mt ?_ ?_; focus (first | rfl | (simp; done) | (simp; omega))) | (refine Ite.mf ?_ ?_; focus (first | rfl | (simp; done) | (simp; omega))) | (refine And.intro ?_ ?_; focus (first | rfl | decide | (simp; done) | (simp; omega) | omega))) <;> (try conv => whnf)))
    refine ⟨_, _, rfl, rfl, ?_⟩
    ((try conv => whnf) <;> repeat ((first | (refine Ite.mt ?_ ?_; focus (first | rfl | (simp; done) | (simp; omega))) | (refine Ite.mf ?_ ?_; focus (first | rfl | (simp; done) | (simp; omega))) | (refine And.intro ?_ ?_; focus (first | rfl | decide | (simp; done) | (simp; omega) | omega))) <;> (try conv => whnf)))
    refine ⟨⟨rfl, rfl⟩, ?_⟩
    exact ofbl q rfl
  | bl b =>
    ((try conv => whnf) <;> repeat ((first | (refine Ite.mt ?_ ?_; focus (first | rfl | (simp; done) | (simp; omega))) | (refine Ite.mf ?_ ?_; focus (first | rfl | (simp; done) | (simp; omega))) | (refine And.intro ?_ ?_; focus (first | rfl | decide | (simp; done) | (simp; omega) | omega))) <;> (try conv => whnf)))
    refine ⟨_, _, rfl, rfl, ?_⟩
    (conv => whnf)
    refine ⟨rfl, _, _, rfl, rfl, ?_⟩
    ((try conv => whnf) <;> repeat ((first | (refine Ite.mt ?_ ?_; focus (first | rfl | (simp; done) | (simp; omega))) | (refine Ite.mf ?_ ?_; focus (first | rfl | (simp; done) | (simp; omega))) | (refine And.intro ?_ ?_; focus (first | rfl | decide | (simp; done) | (simp; omega) | omega))) <;> (try conv => whnf)))
    refine ⟨_, _, rfl, rfl, ?_⟩
    ((try conv => whnf) <;> repeat ((first | (refine Ite.mt ?_ ?_; focus (first | rfl | (simp; done) | (simp; omega))) | (refine Ite.mf ?_ ?_; focus (first | rfl | (simp; done) | (simp; omega))) | (refine And.intro ?_ ?_; focus (first | rfl | decide | (simp; done) | (simp; omega) | omega))) <;> (try conv => whnf)))
    refine ⟨⟨rfl, rfl⟩, ?_⟩
    exact ofbl q (eqv_refl (.bl b) 0 rfl)
  | int i =>
    ((try conv => whnf) <;> repeat ((first | (refine Ite.mt ?_ ?_; focus (first | rfl | (simp; done) | (simp; omega))) | (refine Ite.mf ?_ ?_; focus (first | rfl | (simp; done) | (simp; omega))) | (refine And.intro ?_ ?_; focus (first | rfl | decide | (simp; done) | (simp; omega) | omega))) <;> (try conv => whnf)))
    refine ⟨_, _, rfl, rfl, ?_⟩
    (conv => whnf)
    refine ⟨rfl, _, _, rfl, rfl, ?_⟩
    ((try conv => whnf) <;> repeat ((first | (refine Ite.mt ?_ ?_; focus (first | rfl | (simp; done) | (simp; omega))) | (refine Ite.mf ?_ ?_; focus (first | rfl | (simp; done) | (simp; omega))) | (refine And.intro ?_ ?_; focus (first | rfl | decide | (simp; done) | (simp; omega) | omega))) <;> (try conv => whnf)))
    refine ⟨_, _, rfl, rfl, ?_⟩
    ((try conv => whnf) <;> repeat ((first | (refine Ite.mt ?_ ?_; focus (first | rfl | (simp; done) | (simp; omega))) | (refine Ite.mf ?_ ?_; focus (first | rfl | (simp; done) | (simp; omega))) | (refine And.intro ?_ ?_; focus (first | rfl | decide | (simp; done) | (simp; omega) | omega))) <;> (try conv => whnf)))
    exact ofbl q (by simp)
  | str x =>
    ((try conv => whnf) <;> repeat ((first | (refine Ite.mt ?_ ?_; focus (first | rfl | (simp; done) | (simp; omega))) | (refine Ite.mf ?_ ?_; focus (first | rfl | (simp; done) | (simp; omega))) | (refine And.intro ?_ ?_; focus (first | rfl | decide | (simp; done) | (simp; omega) | omega))) <;> (try conv => whnf)))
    refine ⟨_, _, rfl, rfl, ?_⟩
    (conv => whnf)
    refine ⟨rfl, _, _, rfl, rfl, ?_⟩
    ((try conv => whnf) <;> repeat ((first | (refine Ite.mt ?_ ?_; focus (first | rfl | (simp; done) | (simp; omega))) | (refine Ite.mf ?_ ?_; focus (first | rfl | (simp; done) | (simp; omega))) | (refine And.intro ?_ ?_; focus (first | rfl | decide | (simp; done) | (simp; omega) | omega))) <;> (try conv => whnf)))
    refine ⟨_, _, rfl, rfl, ?_⟩
    ((try conv => whnf) <;> repeat ((first | (refine Ite.mt ?_ ?_; focus (first | rfl | (simp; done) | (simp; omega))) | (refine Ite.mf ?_ ?_; focus (first | rfl | (simp; done) | (simp; omega))) | (refine And.intro ?_ ?_; focus (first | rfl | decide | (simp; done) | (simp; omega) | omega))) <;> (try conv => whnf)))
    exact ofbl q (by simp)
end VC

set_option Elab.async false
set_option linter.all false
set_option maxRecDepth 100000
set_option maxHeartbeats 4000000
/-! M4: the laws' chains, their own stages. -/
namespace VC
open PySem PySem.Spec PyProof.Rows L2
def sp__law_first : FSpec := fun ds S R _ => ∃ c : Chn, ds = [c.d] ∧ c.Ok ∧ R (.val (memsT c.first)) S
def sp__law_tick : FSpec := fun ds S R _ => ∃ (c : Chn) (ms : List Mem) (x : Int), ds = [c.d, memsT ms, .int x] ∧ Fits c.top c.stages ms ∧ c.stages.length ≤ 1000 ∧ (∀ s ∈ c.stages, s.Ok c.top) ∧ R (.val (.tup [.int (step c.stages ms x).1, memsT (step c.stages ms x).2])) S
end VC

set_option Elab.async false
set_option linter.all false
set_option maxRecDepth 100000
set_option maxHeartbeats 4000000
/-! M5: random chains, signals. -/
namespace VC
open PySem PySem.Spec PyProof.Rows L2
def sp__law_ran : FSpec := fun ds S R _ => ∃ (c : Chn) (ms : List Mem) (xs : List Int), ds = [c.d, memsT ms, intsT xs] ∧ Fits c.top c.stages ms ∧ c.stages.length ≤ 1000 ∧ (∀ s ∈ c.stages, s.Ok c.top) ∧ (∀ x ∈ xs, Lev c.top x) ∧ xs.length ≤ 100000 ∧ R (.val (.tup [intsT (runs c.stages ms xs).1, memsT (runs c.stages ms xs).2])) S
def sp__law_stage : FSpec := fun ds S R _ => ∃ (r : Nat) (t n : Int) (b : Bool), ds = [.ref r, .int t, .bl b] ∧ Deck n r S ∧ n + 10 < 2 ^ 32 ∧ 0 < t ∧ t ≤ 5 ∧ ∀ (s : Stg) S', s.Ok t → (b = true → s.keep = false) → Deck (n + 10) r S' → But1 r S S' → R (.val s.d) S'
theorem vc__law_stage (ds S R) (h : sp__law_stage ds S R (fun _ _ => False)) : wf_law_stage sp__law_pick (ENDS R) (env0 6 ds) S := by
  obtain ⟨r, t, n, b, rfl, dk, hn, t0, t5, q⟩ := h
  ((try conv => whnf) <;> repeat ((first | (refine Ite.mt ?_ ?_; focus (first | rfl | (simp; done) | (simp; omega))) | (refine Ite.mf ?_ ?_; focus (first | rfl | (simp; done) | (simp; omega))) | (refine And.intro ?_ ?_; focus (first | rfl | decide | (simp; done) | (simp; omega) | omega))) <;> (try conv => whnf)))
  refine ⟨r, _, n, rfl, dk, by omega, by omega, by omega, fun lo S1 l0 l1 d1 b1 => ?_⟩
  ((try conv => whnf) <;> repeat ((first | (refine Ite.mt ?_ ?_; focus (first | rfl | (simp; done) | (simp; omega))) | (refine Ite.mf ?_ ?_; focus (first | rfl | (simp; done) | (simp; omega))) | (refine And.intro ?_ ?_; focus (first | rfl | decide | (simp; done) | (simp; omega) | omega))) <;> (try conv => whnf)))
  refine ⟨r, _, n + 1, rfl, d1, by omega, by omega, by omega, fun hi S2 i0 i1 d2 b2 => ?_⟩
  have b12 := b1.trans b2
  ((try conv => whnf) <;> repeat ((first | (refine Ite.mt ?_ ?_; focus (first | rfl | (simp; done) | (simp; omega))) | (refine Ite.mf ?_ ?_; focus (first | rfl | (simp; done) | (simp; omega))) | (refine And.intro ?_ ?_; focus (first | rfl | decide | (simp; done) | (simp; omega) | omega))) <;> (try conv => whnf)))
  refine Ite.intro (fun hc => ?_) (fun hc => ?_)
  · subst hc
    ((try conv => whnf) <;> repeat ((first | (refine Ite.mt ?_ ?_; focus (first | rfl | (simp; done) | (simp; omega))) | (refine Ite.mf ?_ ?_; focus (first | rfl | (simp; done) | (simp; omega))) | (refine And.intro ?_ ?_; focus (first | rfl | decide | (simp; done) | (simp; omega) | omega))) <;> (try conv => whnf)))
    exact q (.clip lo (lo + hi)) S2 ⟨by omega, by omega, by omega, by omega⟩ (fun _ => rfl) (d2.mono (by omega)) b12
  · subst hc
    ((try conv => whnf) <;> repeat ((first | (refine Ite.mt ?_ ?_; focus (first | rfl | (simp; done) | (simp; omega))) | (refine Ite.mf ?_ ?_; focus (first | rfl | (simp; done) | (simp; omega))) | (refine And.intro ?_ ?_; focus (first | rfl | decide | (simp; done) | (simp; omega) | omega))) <;> (try conv => whnf)))
    refine ⟨r, _, n + 1 + 1, rfl, d2, by omega, by omega, by omega, fun k3 S3 j0 j1 d3 b3 => ?_⟩
    have b13 := b12.trans b3
    (conv => whnf)
    refine Ite.intro (fun hc => ?_) (fun hc => ?_)
    · ((try conv => whnf) <;> repeat ((first | (refine Ite.mt ?_ ?_; focus (first | rfl | (simp; done) | (simp; omega))) | (refine Ite.mf ?_ ?_; focus (first | rfl | (simp; done) | (simp; omega))) | (refine And.intro ?_ ?_; focus (first | rfl | decide | (simp; done) | (simp; omega) | omega))) <;> (try conv => whnf)))
      exact q (.clip lo (lo + hi)) S3 ⟨by omega, by omega, by omega, by omega⟩ (fun _ => rfl) (d3.mono (by omega)) b13
    · ((try conv => whnf) <;> repeat ((first | (refine Ite.mt ?_ ?_; focus (first | rfl | (simp; done) | (simp; omega))) | (refine Ite.mf ?_ ?_; focus (first | rfl | (simp; done) | (simp; omega))) | (refine And.intro ?_ ?_; focus (first | rfl | decide | (simp; done) | (simp; omega) | omega))) <;> (try conv => whnf)))
      refine ⟨r, _, n + 1 + 1 + 1, rfl, d3, by omega, by omega, by omega, fun way S4 w0 w1 d4 b4 => ?_⟩
      have b14 := b13.trans b4
      (conv => whnf)
      refine Ite.intro (fun hc2 => ?_) (fun hc2 => ?_)
      · ((try conv => whnf) <;> repeat ((first | (refine Ite.mt ?_ ?_; focus (first | rfl | (simp; done) | (simp; omega))) | (refine Ite.mf ?_ ?_; focus (first | rfl | (simp; done) | (simp; omega))) | (refine And.intro ?_ ?_; focus (first | rfl | decide | (simp; done) | (simp; omega) | omega))) <;> (try conv => whnf)))
        exact q (.gate lo (lo + hi)) S4 ⟨by omega, by omega, by omega, by omega⟩ (fun h => by cases h) (d4.mono (by omega)) b14
      · (conv => whnf)
        refine Ite.intro (fun hc3 => ?_) (fun hc3 => ?_)
        · ((try conv => whnf) <;> repeat ((first | (refine Ite.mt ?_ ?_; focus (first | rfl | (simp; done) | (simp; omega))) | (refine Ite.mf ?_ ?_; focus (first | rfl | (simp; done) | (simp; omega))) | (refine And.intro ?_ ?_; focus (first | rfl | decide | (simp; done) | (simp; omega) | omega))) <;> (try conv => whnf)))
          refine ⟨r, _, n + 1 + 1 + 1 + 1, rfl, d4, by omega, by omega, by omega, fun k5 S5 p0 p1 d5 b5 => ?_⟩
          ((try conv => whnf) <;> repeat ((first | (refine Ite.mt ?_ ?_; focus (first | rfl | (simp; done) | (simp; omega))) | (refine Ite.mf ?_ ?_; focus (first | rfl | (simp; done) | (simp; omega))) | (refine And.intro ?_ ?_; focus (first | rfl | decide | (simp; done) | (simp; omega) | omega))) <;> (try conv => whnf)))
          exact q (.hold (1 + k5)) S5 ⟨by omega, by omega⟩ (fun h => by cases h) (d5.mono (by omega)) (b14.trans b5)
        · ((try conv => whnf) <;> repeat ((first | (refine Ite.mt ?_ ?_; focus (first | rfl | (simp; done) | (simp; omega))) | (refine Ite.mf ?_ ?_; focus (first | rfl | (simp; done) | (simp; omega))) | (refine And.intro ?_ ?_; focus (first | rfl | decide | (simp; done) | (simp; omega) | omega))) <;> (try conv => whnf)))
          refine ⟨r, _, n + 1 + 1 + 1 + 1, rfl, d4, by omega, by split <;> omega, by split <;> omega, fun k5 S5 p0 p1 d5 b5 => ?_⟩
          ((try conv => whnf) <;> repeat ((first | (refine Ite.mt ?_ ?_; focus (first | rfl | (simp; done) | (simp; omega))) | (refine Ite.mf ?_ ?_; focus (first | rfl | (simp; done) | (simp; omega))) | (refine And.intro ?_ ?_; focus (first | rfl | decide | (simp; done) | (simp; omega) | omega))) <;> (try conv => whnf)))
          refine ⟨r, _, n + 1 + 1 + 1 + 1 + 1, rfl, d5, by omega, by split <;> omega, by split <;> omega, fun k6 S6 q0 q1 d6 b6 => ?_⟩
          ((try conv => whnf) <;> repeat ((first | (refine Ite.mt ?_ ?_; focus (first | rfl | (simp; done) | (simp; omega))) | (refine Ite.mf ?_ ?_; focus (first | rfl | (simp; done) | (simp; omega))) | (refine And.intro ?_ ?_; focus (first | rfl | decide | (simp; done) | (simp; omega) | omega))) <;> (try conv => whnf)))
          exact q (.slew k5 k6) S6 ⟨by omega, by split at p1 <;> omega, by omega, by split at q1 <;> omega⟩ (fun h => by cases h) (d6.mono (by omega)) ((b14.trans b5).trans b6)
def sp__law_chain : FSpec := fun ds S R _ => ∃ (r : Nat) (m k n : Int), ds = [.ref r, .int m, .int k] ∧ Deck n r S ∧ n + 50 < 2 ^ 32 ∧ 1 ≤ m ∧ m ≤ 5 ∧ 0 ≤ k ∧ k ≤ 3 ∧ ∀ (c : Chn) S', c.Ok → c.top ≤ m → c.stages.length ≤ k → Deck (n + 50) r S' → But1 r S S' → R (.val c.d) S'
theorem keeps_snoc (l : List Stg) (s : Stg) : keeps (l ++ [s]) = keeps l + (if s.keep then 1 else 0) := by
  unfold keeps
  rw [List.filter_append, List.length_append]
  cases h : s.keep <;> simp [List.filter, h]
@[reducible] def stgsT (l : List Stg) : D := .tup (l.map Stg.d)
theorem stgsT_snoc (l : List Stg) (m : Stg) : stgsT (l ++ [m]) = .tup (l.map Stg.d ++ [m.d]) := by simp [stgsT]
theorem vc__law_chain (ds S R) (h : sp__law_chain ds S R (fun _ _ => False)) : wf_law_chain sp__law_pick sp__law_stage (ENDS R) (env0 8 ds) S := by
  obtain ⟨r, m, k, n, rfl, dk, hn, m1, m5, k0, k3, q⟩ := h
  ((try conv => whnf) <;> repeat ((first | (refine Ite.mt ?_ ?_; focus (first | rfl | (simp; done) | (simp; omega))) | (refine Ite.mf ?_ ?_; focus (first | rfl | (simp; done) | (simp; omega))) | (refine And.intro ?_ ?_; focus (first | rfl | decide | (simp; done) | (simp; omega) | omega))) <;> (try conv => whnf)))
  refine ⟨r, _, n, rfl, dk, by omega, by omega, by omega, fun t S1 l0 l1 d1 b1 => ?_⟩
  ((try conv => whnf) <;> repeat ((first | (refine Ite.mt ?_ ?_; focus (first | rfl | (simp; done) | (simp; omega))) | (refine Ite.mf ?_ ?_; focus (first | rfl | (simp; done) | (simp; omega))) | (refine And.intro ?_ ?_; focus (first | rfl | decide | (simp; done) | (simp; omega) | omega))) <;> (try conv => whnf)))
  refine ⟨r, _, n + 1, rfl, d1, by omega, by omega, by omega, fun u S2 i0 i1 d2 b2 => ?_⟩
  ((try conv => whnf) <;> repeat ((first | (refine Ite.mt ?_ ?_; focus (first | rfl | (simp; done) | (simp; omega))) | (refine Ite.mf ?_ ?_; focus (first | rfl | (simp; done) | (simp; omega))) | (refine And.intro ?_ ?_; focus (first | rfl | decide | (simp; done) | (simp; omega) | omega))) <;> (try conv => whnf)))
  have b12 := b1.trans b2
  refine forW_rng (fun i e s => ∃ (l : List Stg) (t6 t7 : Option T), e = [some (.val (.ref r)), some (.val (.int m)), some (.val (.int k)), some (.val (.int (1 + t))), some (.val (stgsT l)), some (.val (.int (keeps l : Nat))), t6, t7] ∧ l.length = i ∧ keeps l ≤ 2 ∧ (∀ s ∈ l, s.Ok (1 + t)) ∧ Deck (n + 2 + 10 * (i : Int)) r s ∧ But1 r S s) ?_ ?_ ⟨[], none, none, rfl, rfl, by decide, fun _ h => by simp at h, d2.mono (by omega), b12⟩
  · rintro e s ⟨l, t6, t7, rfl, h1, h2, h3, h4, h5⟩
    ((try conv => whnf) <;> repeat ((first | (refine Ite.mt ?_ ?_; focus (first | rfl | (simp; done) | (simp; omega))) | (refine Ite.mf ?_ ?_; focus (first | rfl | (simp; done) | (simp; omega))) | (refine And.intro ?_ ?_; focus (first | rfl | decide | (simp; done) | (simp; omega) | omega))) <;> (try conv => whnf)))
    refine ⟨r, _, _, rfl, h4, by omega, by omega, by omega, fun st S3 j0 j1 d3 b3 => ?_⟩
    ((try conv => whnf) <;> repeat ((first | (refine Ite.mt ?_ ?_; focus (first | rfl | (simp; done) | (simp; omega))) | (refine Ite.mf ?_ ?_; focus (first | rfl | (simp; done) | (simp; omega))) | (refine And.intro ?_ ?_; focus (first | rfl | decide | (simp; done) | (simp; omega) | omega))) <;> (try conv => whnf)))
    exact q ⟨1 + t, st, l⟩ S3 ⟨by simp; omega, by simp; omega, j0, by simp; omega, by simp; omega, h3, h2⟩ (by simp; omega) (by simp; omega) (d3.mono (by omega)) (h5.trans b3)
  · rintro i e s K hi ⟨l, t6, t7, rfl, h1, h2, h3, h4, h5⟩ hK
    ((try conv => whnf) <;> repeat ((first | (refine Ite.mt ?_ ?_; focus (first | rfl | (simp; done) | (simp; omega))) | (refine Ite.mf ?_ ?_; focus (first | rfl | (simp; done) | (simp; omega))) | (refine And.intro ?_ ?_; focus (first | rfl | decide | (simp; done) | (simp; omega) | omega))) <;> (try conv => whnf)))
    refine ⟨r, _, _, _, rfl, h4, by omega, by omega, by omega, fun st S3 j0 j1 d3 b3 => ?_⟩
    have kl : keeps (l ++ [st]) ≤ 2 := by
      rw [keeps_snoc]
      cases hk : st.keep with
      | false => simpa using h2
      | true =>
        have : ¬ (keeps l = 2) := fun e => by
          have := j1 (by simp [e])
          rw [hk] at this; cases this
        simp; omega
    have fin : ∀ t6, K [some (.val (.ref r)), some (.val (.int m)), some (.val (.int k)), some (.val (.int (1 + t))), some (.val (stgsT (l ++ [st]))), some (.val (.int ((keeps l : Nat) + (if st.keep then 1 else 0)))), t6, some (.val st.d)] S3 := fun t6 =>
      hK _ _ ⟨l ++ [st], t6, _, by rw [keeps_snoc]; cases st.keep <;> rfl, by simp [h1], kl, fun s hs => by
        rcases List.mem_append.mp hs with h | h
        · exact h3 s h
        · rw [List.mem_singleton.mp h]; exact j0, d3.mono (by push_cast; omega), h5.trans b3⟩
    rw [stgsT_snoc] at fin
    cases st with
    | slew _ _ => ((try conv => whnf) <;> repeat ((first | (refine Ite.mt ?_ ?_; focus (first | rfl | (simp; done) | (simp; omega))) | (refine Ite.mf ?_ ?_; focus (first | rfl | (simp; done) | (simp; omega))) | (refine And.intro ?_ ?_; focus (first | rfl | decide | (simp; done) | (simp; omega) | omega))) <;> (try conv => whnf))); refine ⟨th40 (by simp; omega), ?_⟩; exact fin _
    | clip _ _ => ((try conv => whnf) <;> repeat ((first | (refine Ite.mt ?_ ?_; focus (first | rfl | (simp; done) | (simp; omega))) | (refine Ite.mf ?_ ?_; focus (first | rfl | (simp; done) | (simp; omega))) | (refine And.intro ?_ ?_; focus (first | rfl | decide | (simp; done) | (simp; omega) | omega))) <;> (try conv => whnf))); refine ⟨th40 (by simp; omega), ?_⟩; exact fin _
    | gate _ _ => ((try conv => whnf) <;> repeat ((first | (refine Ite.mt ?_ ?_; focus (first | rfl | (simp; done) | (simp; omega))) | (refine Ite.mf ?_ ?_; focus (first | rfl | (simp; done) | (simp; omega))) | (refine And.intro ?_ ?_; focus (first | rfl | decide | (simp; done) | (simp; omega) | omega))) <;> (try conv => whnf))); refine ⟨th40 (by simp; omega), ?_⟩; exact fin _
    | hold _ => ((try conv => whnf) <;> repeat ((first | (refine Ite.mt ?_ ?_; focus (first | rfl | (simp; done) | (simp; omega))) | (refine Ite.mf ?_ ?_; focus (first | rfl | (simp; done) | (simp; omega))) | (refine And.intro ?_ ?_; focus (first | rfl | decide | (simp; done) | (simp; omega) | omega))) <;> (try conv => whnf))); refine ⟨th40 (by simp; omega), ?_⟩; exact fin _

def sp__law_levels : FSpec := fun ds S R _ => ∃ (r : Nat) (t m n : Int), ds = [.ref r, .int t, .int m] ∧ Deck n r S ∧ n + 200 < 2 ^ 32 ∧ 0 ≤ t ∧ t ≤ 5 ∧ 0 ≤ m ∧ m ≤ 100 ∧ ∀ (l : List Int) S', Sig t m.toNat l → Deck (n + 200) r S' → But1 r S S' → R (.val (intsT l)) S'
theorem lcW_rng {vs : List Nat} {G : WG} {Wt : WT} {We : WE} {Q : List D → VEnv → Sto → Prop} {lo : Int} {n : Nat} (J : Nat → List D → VEnv → Sto → Prop) (fin : ∀ acc e s, J n acc e s → Q acc e s)
    (stp : ∀ (i : Nat) acc e s (K : List D → VEnv → Sto → Prop), i < n → J i acc e s → (∀ acc e s, J (i + 1) acc e s → K acc e s) → G (.int (lo + (i : Int))) e s fun e1 s1 => Wt e1 s1 fun b e2 s2 => Ite b (We e2 s2 fun t e3 s3 => K (acc ++ [t.d]) (wpE e3 vs) s3) (K acc (wpE e2 vs) s2))
    {acc : List D} {e : VEnv} {s : Sto} (h : J 0 acc e s) : lcW vs G Wt We (rngD lo n) acc e s Q := by
  have key : ∀ (l : List Nat) (acc : List D) (e : VEnv) (s : Sto) (i : Nat), l = (List.range n).drop i → i ≤ n → J i acc e s → lcW vs G Wt We (l.map fun (i : Nat) => .int (lo + (i : Int))) acc e s Q := by
    intro l
    induction l with
    | nil =>
      intro acc e s i hl hi h
      have : n ≤ i := by simpa using (List.drop_eq_nil_iff.mp hl.symm)
      have e1 : i = n := by omega
      subst e1
      exact fin acc e s h
    | cons a l ih =>
      intro acc e s i hl hi h
      have hi' : i < n := by
        refine Nat.lt_of_not_le fun q => ?_
        rw [List.drop_eq_nil_of_le (by simpa using q)] at hl
        cases hl
      rw [List.drop_eq_getElem_cons (by simpa using hi')] at hl
      obtain ⟨h1, h2⟩ := List.cons.inj hl
      have h1 : a = i := by simpa using h1
      subst h1
      exact stp a acc e s _ hi' h fun acc e s h => ih acc e s (a + 1) h2 hi' h
  unfold rngD
  exact key _ acc e s 0 (by simp) (Nat.zero_le _) h
mutual
theorem datd_mono : ∀ (d : D) (n m : Nat), datd d n = true → n ≤ m → datd d m = true
  | .non, _, _, _, _ => rfl
  | .bl _, _, _, _, _ => rfl
  | .int _, _, _, _, _ => rfl
  | .str _, _, _, h, _ => by simpa [datd] using h
  | .tup xs, n, m, h, k => by
    cases n with
    | zero => simp [datd] at h
    | succ n =>
      cases m with
      | zero => omega
      | succ m =>
        simp only [datd, Bool.and_eq_true] at h ⊢
        exact ⟨h.1, datds_mono xs n m h.2 (by omega)⟩
  | .lst xs, n, m, h, k => by
    cases n with
    | zero => simp [datd] at h
    | succ n =>
      cases m with
      | zero => omega
      | succ m =>
        simp only [datd, Bool.and_eq_true] at h ⊢
        exact ⟨h.1, datds_mono xs n m h.2 (by omega)⟩
  | .dct _ _, _, _, h, _ => by simp [datd] at h
  | .ref _, _, _, h, _ => by simp [datd] at h
  | .fn _, _, _, h, _ => by simp [datd] at h
  | .kst _, _, _, h, _ => by simp [datd] at h
  | .opq, _, _, h, _ => by simp [datd] at h
theorem datds_mono : ∀ (ds : List D) (n m : Nat), datds ds n = true → n ≤ m → datds ds m = true
  | [], _, _, _, _ => rfl
  | x :: xs, n, m, h, k => by
    simp only [datds, Bool.and_eq_true] at h ⊢
    exact ⟨datd_mono x n m h.1 k, datds_mono xs n m h.2 k⟩
end
theorem flat_zeros : ∀ n : Nat, (List.replicate n [D.int 0]).flatten = (List.replicate n (0 : Int)).map D.int
  | 0 => rfl
  | n + 1 => by rw [List.replicate_succ, List.flatten_cons, flat_zeros n, List.replicate_succ]; rfl
theorem script_at (ns : List Int) (m : Int) (k : Nat) (hk : k < m.toNat) : ∃ x : Int, atD (ns.map D.int ++ (List.replicate m.toNat [D.int 0]).flatten) (0 + (k : Int)) = some (.int x) := by
  have e := flat_zeros m.toNat
  rw [e, ← List.map_append, Int.zero_add]
  obtain ⟨x, hx⟩ : ∃ x, (ns ++ List.replicate m.toNat (0 : Int))[k]? = some x := ⟨_, List.getElem?_eq_getElem (by simp; omega)⟩
  exact ⟨x, atD_nat (by rw [List.getElem?_map, hx]; rfl)⟩
def sp_law : FSpec := fun ds S R _ => ∃ ns : List Int, ds = [.kst (ns.map D.int)] ∧ ns.length ≤ 63 ∧ ∀ S', R (.val (.bl true)) S'
end VC

set_option Elab.async false
set_option linter.all false
set_option maxRecDepth 100000
set_option maxHeartbeats 4000000
/-! M6: the specs grow with what is wanted; the law's call. -/
namespace VC
open PySem PySem.Spec PyProof.Rows L2
theorem rep_ints {mg : Str → Option Value} {w : WK} {g : Gh} {H : Hp} : ∀ ns : List Int, RepAll mg w g H (ns.map D.int) (ns.map V.int)
  | [] => .nil
  | n :: ns => .cons (.int n) (rep_ints ns)
theorem mo_keeping : MoF sp_keeping := by (intro ds S R R' E i; repeat (first | exact i _ _ | (refine Exists.imp fun _ => ?_) | (refine And.imp_right ?_) | (intro f x; refine (show _ → _ from ?_) (f x))))
theorem mo_need_chain : MoF sp_need_chain := by (intro ds S R R' E i; repeat (first | exact i _ _ | (refine Exists.imp fun _ => ?_) | (refine And.imp_right ?_) | (intro f x; refine (show _ → _ from ?_) (f x))))
theorem mo__law_deck : MoF sp__law_deck := by (intro ds S R R' E i; repeat (first | exact i _ _ | (refine Exists.imp fun _ => ?_) | (refine And.imp_right ?_) | (intro f x; refine (show _ → _ from ?_) (f x))))
theorem mo__law_pick : MoF sp__law_pick := by (intro ds S R R' E i; repeat (first | exact i _ _ | (refine Exists.imp fun _ => ?_) | (refine And.imp_right ?_) | (intro f x; refine (show _ → _ from ?_) (f x))))
theorem mo__law_sort : MoF sp__law_sort := by (intro ds S R R' E i; repeat (first | exact i _ _ | (refine Exists.imp fun _ => ?_) | (refine And.imp_right ?_) | (intro f x; refine (show _ → _ from ?_) (f x))))
theorem mo__law_same (n : Nat) : MoF (sp__law_same n) := by (intro ds S R R' E i; repeat (first | exact i _ _ | (refine Exists.imp fun _ => ?_) | (refine And.imp_right ?_) | (intro f x; refine (show _ → _ from ?_) (f x))))
theorem mo__law_stage : MoF sp__law_stage := by (intro ds S R R' E i; repeat (first | exact i _ _ | (refine Exists.imp fun _ => ?_) | (refine And.imp_right ?_) | (intro f x; refine (show _ → _ from ?_) (f x))))
theorem mo__law_chain : MoF sp__law_chain := by (intro ds S R R' E i; repeat (first | exact i _ _ | (refine Exists.imp fun _ => ?_) | (refine And.imp_right ?_) | (intro f x; refine (show _ → _ from ?_) (f x))))
end VC

set_option Elab.async false
set_option linter.all false
set_option maxRecDepth 100000
set_option maxHeartbeats 4000000
/-! ZK: the end of a law that makes lambdas. -/
namespace VC
open PySem PySem.Spec PyProof.Rows L2 LamX
section
variable {P : Program} {w : World} {K : PySem.W.Frag} {mg : Str → Option Value} {base : Heap}
theorem FnV.weak {x : Str} {n k : Nat} {sp sp' : FSpec} (F : FnV P w K mg base x n k sp) (m : MoF sp') (h : ∀ ds S R E, sp' ds S R E → sp ds S R E) : FnV P w K mg base x n k sp' := by
  obtain ⟨f, fd, ps, dds, dvs, us, sp0, G, hm, hk, hb, hv, rd, is⟩ := F.ex
  exact ⟨m, f, fd, ps, dds, dvs, us, sp0, G, hm, hk, hb, hv, rd, fun ds S R E q => is ds S R E (h ds S R E q)⟩
theorem FnX.up {x : Str} {n k k' : Nat} {sp : FSpec} (F : FnX P w K mg base x n k sp) (h : k ≤ k') : FnX P w K mg base x n k' sp := by
  obtain ⟨f, fd, ps, dds, dvs, us, sp0, G, hm, hk, hb, hv, rd, is⟩ := F.ex
  exact ⟨F.mono, f, fd, ps, dds, dvs, us, sp0, G.mono h, hm, hk, hb, hv, rd, is⟩
theorem NameOk.up {k k' : Nat} {nm : Addr → Str → Prop} (F : NameOk P w K mg base k nm) (h : k ≤ k') : NameOk P w K mg base k' nm := by
  obtain ⟨f, fd, hm, hk, hb, run⟩ := F.ex
  exact ⟨f, fd, hm, hk, hb, fun CX A outer s H args Q E p C d word hr => run CX A outer s H args Q E p C d word (hr.mono h)⟩
end
theorem lam_qual {P : Program} {w : World} {K : PySem.W.Frag} {mg : Str → Option Value} {base : Heap} {N : List Str} {x : Str} {sc : Scope} {f : Addr} {cdv : Value} {A : Around} {outer : List Env} {s : Shared} {H : Hp} {E : XK} : (cxX P w K mg base N x sc f cdv A outer s H E).env.qual ++ "<lambda>" = lamQ x := rfl
theorem lam_scope {P : Program} {w : World} {K : PySem.W.Frag} {mg : Str → Option Value} {base : Heap} {N : List Str} {x : Str} {sc scope : Scope} {f : Addr} {cdv : Value} {A : Around} {outer : List Env} {s : Shared} {H : Hp} {E : XK} (h : lamSB sc scope = true) : LamS (cxX P w K mg base N x sc f cdv A outer s H E).env.scope scope := lamS_by h
theorem sto_tabs {mg : Str → Option Value} {w : World} {K : PySem.W.Frag} {tf : List Str} {H : Hp} (nd : (tabA K tf).Nodup) (hH : ∀ q ∈ tf, H (He.cT K (q, none)).2 = some (.tbl #[])) : StoOk mg (w, K) ⟨fun b => H b ≠ none ∧ b ∉ tabA K tf, tabA K tf⟩ H (tf.map M.tbl) := by
  refine ⟨by simp [tabA], nd, fun k a m h1 h2 => ?_, fun a ha z => z.2 ha, fun a z => Option.ne_none_iff_exists'.mp z.1⟩
  have h1 : (tabA K tf)[k]? = some a := h1
  rw [tabA, List.getElem?_map] at h1
  rw [List.getElem?_map] at h2
  cases e : tf[k]? with
  | none => rw [e] at h1; cases h1
  | some q =>
    rw [e] at h1 h2
    cases h1; cases h2
    exact ⟨rfl, #[], hH q (List.mem_of_getElem? e), trivial, fun pos cv z => nomatch z⟩
/-- the law's promise, its tables first in the store -/
def sp_lawT (tf : List Str) : FSpec := fun ds S R _ => S = tf.map M.tbl ∧ ∃ ns : List Int, ds = [.kst (ns.map D.int)] ∧ ns.length ≤ 63 ∧ ∀ S', R (.val (.bl true)) S'
end VC

set_option Elab.async false
set_option linter.all false
set_option maxRecDepth 100000
set_option maxHeartbeats 4000000
/-! CF: properties; the end of a law over own classes. -/
namespace VC
open PySem PySem.Spec PyProof.Rows L2 LamX
structure PrpV (P : Program) (w : World) (K : PySem.W.Frag) (mg : Str → Option Value) (base : Heap) (C m : Str) (k : Nat) (sp : FSpec) : Prop where
  mono : MoF sp
  ex : ∃ (Ca p f : Addr) (fd : FuncData) (ps : List Str), FnOk P w K mg base (L2N.CX P w) k f fd ps (SpOf mg (w, K) 1 sp) ∧ mg C = some (.ref Ca) ∧ L2.Cls K Ca ∧ PropOf K Ca m p f ∧ Binds K fd ps []
section
variable {X : Cx} {B : Hp} {g0 : Gh} {e : Expr} {pos : Pos}
def wProp (C : Str) (sp : FSpec) (Wo : WO) : WE := fun env S Q => Wo env S fun od env1 S1 => ∃ (r : Nat) (ns : List Str) (xs : List D), od = .ref r ∧ S1[r]? = some (.ins C ns xs) ∧ sp [.ref r] S1 (fun t S3 => Q t env1 S3) (fun _ _ => False)
end
theorem walk_o {l : PySem.W.OpenLaw} {k : Nat} {q : Program} {loose : List Str} {XP : (Str → Option Value) → Heap → Prop} {YP : World → Heap → Prop} {d : DefRec} {x : Str} {fa : List He.Fa} {fn : List He.DefD} {tf : List Str} {PF : PySem.W.Frag → Prop} {exB : PySem.W.Frag → Bool}
    (hn : l.most = some 63) (hdf : d.params.defaults = []) (room : Room k callerA) (hY : ∀ w h, YP w h → ∃ K : PySem.W.Frag, K.In h ∧ He.SaysX fa fn [] (tfD tf) exB w h K ∧ PF K) (hnd : ∀ K, exB K = true → (tabA K tf).Nodup)
    (F : ∀ (w : World) (mg : Str → Option Value) (f : Addr) (h : Heap) (K : PySem.W.Frag), K.In h → h.Ns mainGlobals mg → mg d.name = some (.ref f) → He.SaysD fa fn K → exB K = true → PF K →
      ∃ fd : FuncData, (∀ (s : Shared) (u : Value), BindsTo s fd ⟨[u], []⟩ [(x, u)]) ∧ ∀ base : Heap, K.In base → base.Ns mainGlobals mg → (∀ q ∈ tf, TabB base mg (He.cT K (q, none)).1 (He.cT K (q, none)).2) →
        FnOk l.prog w K mg base (L2N.CX l.prog w) k f fd [x] (SpOf mg (w, K) 1 (sp_lawT tf))) :
    PySem.W.WalkO q loose XP YP l.row.toRowW d [] (fun f vs => PySem.call f vs) := by
  refine walk_ofTsE (n := 63) (k := k) (x := x) (CX := fun w => L2N.CX l.prog w) hn (by decide) hdf room (fun w mg fa' h Y G hm => ?_) ?_
  · obtain ⟨K, KX, c, pf⟩ := hY w h Y
    have cn := hnd K c.more
    obtain ⟨fd, hb, hF⟩ := F w mg fa' h K KX G hm c.t.d c.more pf
    have mem : ∀ p ∈ (tfD tf).map (He.cT K), ∃ q, q ∈ tfD tf ∧ He.cT K q = p := fun p hp => List.mem_map.mp hp
    refine ⟨K, KX, fd, (tfD tf).map (He.cT K), SpOf mg (w, K) 1 (sp_lawT tf), fun p hp => ?_, fun p hp => ?_, fun p hp => ?_, hb, fun H a ns hl _ hT hS => ?_, fun base kb nb ht => hF base kb nb fun q hq => ht _ ?_⟩
    · obtain ⟨q, h1, rfl⟩ := mem p hp; exact c.empty q h1
    · obtain ⟨q, h1, rfl⟩ := mem p hp; exact c.out q h1
    · obtain ⟨q, h1, rfl⟩ := mem p hp; exact PySem.W.codeHd_of_K KX (c.hd q h1)
    · have hH : ∀ q ∈ tf, H (He.cT K (q, none)).2 = some (.tbl #[]) := fun q hq => hT _ (List.mem_map.mpr ⟨(q, none), List.mem_map.mpr ⟨q, hq, rfl⟩, rfl⟩)
      refine ⟨rfl, ⟨fun b => H b ≠ none ∧ b ∉ tabA K tf, tabA K tf⟩, tf.map M.tbl, [.kst (ns.map D.int)], fun t _ => t = .val (.bl true), sto_tabs cn hH, .cons (.kst ?_ (rep_ints ns)) .nil, ⟨rfl, ns, rfl, hl, fun _ => rfl⟩, fun v H' g' t S' st so hf rf ht => ?_⟩
      · have noT : ∀ o, H a = some o → (∀ vs, o ≠ .tbl vs) → a ∉ tabA K tf := fun o e nt z => by
          obtain ⟨q, h1, h2⟩ := List.mem_map.mp z
          have h3 := hH q h1
          rw [h2, e] at h3
          exact nt _ (Option.some.inj h3)
        refine hS.imp (fun h => ⟨⟨?_, ?_⟩, h⟩) id
        · rcases h with h | ⟨o, h⟩ <;> rw [h] <;> exact fun z => nomatch z
        · rcases h with h | ⟨o, h⟩
          · exact noT _ h fun vs z => nomatch z
          · exact noT _ h fun vs z => nomatch z
      · subst ht
        cases rf
        rfl
    · exact List.mem_map.mpr ⟨(q, none), List.mem_map.mpr ⟨q, hq, rfl⟩, rfl⟩
  · rintro w H s e s' ⟨_, _, _, _, _, _, _, _, _, _, _, _, z⟩
    exact z
end VC

set_option Elab.async false
set_option linter.all false
set_option maxRecDepth 100000
set_option maxHeartbeats 4000000
/-! CG: o.f as a target within a tuple, o a name. -/
namespace VC
open PySem PySem.Spec PyProof.Rows L2
section
variable {X : Cx} {B : Hp} {g0 : Gh} {o : Expr} {pos : Pos}
def gFldV (C f : Str) (i : Nat) : WG := fun d env S Q => ∃ (r : Nat) (ns : List Str) (xs : List VC.D), slot env i = some (.val (.ref r)) ∧ S[r]? = some (.ins C ns xs) ∧ ns.length < 999 ∧ Q env (S.set r (putI C ns xs f d))
end
end VC

set_option Elab.async false
set_option linter.all false
set_option maxRecDepth 100000
set_option maxHeartbeats 4000000
/-! W_p: what each def does, printed by gen.py. -/
namespace VC
open PySem PySem.Spec PyProof.Rows L2

end VC

set_option Elab.async false
set_option linter.all false
set_option maxRecDepth 100000
set_option maxHeartbeats 4000000
/-! DA: text * int, str(int); isinstance of a tuple; an own ==; in an own object. -/
namespace VC
open PySem PySem.Spec PyProof.Rows L2
def opMulS : O2
  | .str x, .int n, K => MulOk x n ∧ K (.val (.str (Txt.mul x n)))
  | _, _, _ => False
section
variable {X : Cx}
theorem o_mulS : Op2 X (binaryOp .Mult) opMulS := by
  refine ⟨fun d e K K' i q => ?_, fun pins s σ H g d e x y v u K I tr c1 c2 r1 r2 q => ?_⟩
  · unfold opMulS at q ⊢
    split at q <;> first | exact ⟨q.1, i _ q.2⟩ | exact q
  · unfold opMulS at q
    split at q
    · rw [c1.str] at r1; rw [c2.int] at r2
      obtain ⟨t, rfl⟩ := r1
      obtain ⟨u, rfl⟩ := r2
      exact SB.mul q.1 fun t' k => ⟨.str _, H, I.tok _, ⟨_, rfl⟩, rk_str q.2⟩
    · exact q.elim
def opStr1 : ON
  | [.int i], K => i.natAbs.log2 < 1920 ∧ K (.val (.str (toString i)))
  | _, _ => False
theorem n_str1 : OpN X (.type "str") opStr1 := by
  refine ⟨fun ds K K' i q => ?_, fun pins s σ H g ds vs us K I tr c r q => ?_⟩
  · unfold opStr1 at q ⊢
    split at q <;> first | exact ⟨q.1, i _ q.2⟩ | exact q
  · unfold opStr1 at q
    split at q
    · obtain ⟨v, rfl, c1⟩ := c.one
      rw [c1.int] at r
      exact call_str_int pins s σ H _ us _ I r ⟨_, rfl, q.1, rk_str q.2⟩
    · exact q.elim
end
/-- what == and isinstance ask of a tuple and an own class -/
structure OwnT (K : PySem.W.Frag) (C : Addr) : Prop where
  kit : PySem.W.kitOne K (.type "tuple") (.ref C) = some false
  sub : PySem.W.subIn K (.type "tuple") (.ref C) = some false
section
variable {X : Cx} {B : Hp} {g0 : Gh} {a b e o : Expr} {pos p p2 : Pos} {Wo : WO} {We : WE}
/-- isinstance(e, C), e a tuple -/
def wIsiT (Wo : WO) : WE := fun env S Q => Wo env S fun d env1 S1 => ∃ ds, d = .tup ds ∧ Q (.val (.bl false)) env1 S1
/-- an own == (or another comparison) -/
def rEqO (K : PySem.W.Frag) (C : Addr) (sp : Sp) (E : XK) : R2 := fun x y H Q => ∃ p dx fs, x = .ref p ∧ H p = some (.ins C dx fs) ∧ ((∃ q dy gs, y = .ref q ∧ H q = some (.ins C dy gs)) ∨ ∃ q ys, y = .ref q ∧ H q = some (.tup ys) ∧ OwnT K C) ∧ sp [.ref p, y] H Q E
def wIsiB (C : Str) (Wo : WO) : WE := fun env S Q => Wo env S fun d env1 S1 => (∃ ds, d = .tup ds ∧ Q (.val (.bl false)) env1 S1) ∨ ∃ (r : Nat) (ns : List Str) (xs : List D), d = .ref r ∧ S1[r]? = some (.ins C ns xs) ∧ Q (.val (.bl true)) env1 S1
/-- an own ==; the second value is an instance too, or a tuple -/
def wEqO (C : Str) (sp : FSpec) (Wa : WO) (Wb : WE) : WE := fun env S Q => Wa env S fun d env1 S1 => Wb env1 S1 fun t env2 S2 => ∃ (r : Nat) (ns : List Str) (xs : List D), d = .ref r ∧ S2[r]? = some (.ins C ns xs) ∧
  ((∃ ds, t = .val (.tup ds)) ∨ ∃ (r2 : Nat) (ms : List Str) (ys : List D), t = .val (.ref r2) ∧ S2[r2]? = some (.ins C ms ys)) ∧ sp [d, t.d] S2 (fun t S3 => Q t env2 S3) (fun _ _ => False)
end
end VC

set_option Elab.async false
set_option linter.all false
set_option maxRecDepth 100000
set_option maxHeartbeats 4000000
/-! DB: an own exception class whose __init__ says super().__init__('..') and keeps one field. -/
namespace VC
open PySem PySem.Spec PyProof.Rows L2
/-- what the written part says of such a class: its __init__ at fI, the cell of __class__ at cc, its code at cda -/
structure SupC (P : Program) (K : PySem.W.Frag) (C fI cc cda : Addr) (name qual fld : Str) (params : Arguments) (body : List Stmt) (scope : Scope) : Prop where
  oex : OexC K C
  ini : PySem.W.findIn K (.ref C) "__init__" = some (some (.ref fI))
  tI : PySem.W.typeIn K (.ref fI) = some (.type "function")
  fn : ∃ oc od kV doc pm an ct osl, K.lookup fI = some ⟨oc, od, .func (PySem.W.ksFn name qual params body scope .none kV doc pm an (.ref cda) ct cc), osl⟩
  code : PySem.W.codeIn K (.ref cda) qual = true
  file : ∃ oc od vs sl file tf, K.lookup cda = some ⟨oc, od, .fields vs, sl⟩ ∧ vs[2]? = some (.str file tf) ∧ ((P.main.file : Str) == file) = true
  cell : ∃ cl cld csl, K.lookup cc = some ⟨cl, cld, .cell (some (.ref C)), csl⟩
  sup : PySem.W.ks_superIn K C C "__init__" = some (some (.builtin "ValueError.__init__"))
  self : PySem.W.mroIn K C (.ref C) = some true
  sub : PySem.W.subIn K (.ref C) (.type "ValueError") = some true
  opq : PySem.W.nsIn K cStatics "thirdparty.any" = some none
  fld : PySem.W.findIn K (.ref C) fld = some none
/-- super().__init__('..'), called -/
theorem call_sup {P : Program} {w : World} {A : Around} {R : Value → Shared → Prop} {E : Value → Shared → Prop} {K : PySem.W.Frag} {C u x t1 : Addr} {rest : List Value} {h : Heap} {g : Array GenState} {d : Drawn} {t : Nat} {os : OsState} (T : OexC K C) (X : K.In h) (hu : h.get? u = some (PySem.W.kxs_mw "ValueError.__init__" x)) (hx : h.get? x = some (PySem.HandSPX.excO C t1)) (hl : rest.length ≤ sizeLine)
    (hq : ∀ h' t2, (∀ b o, b ≠ x → h.get? b = some o → h'.get? b = some o) → h'.get? x = some (PySem.HandSPX.excO C t2) → R .none ⟨h', g, d, t, os⟩) : wpAny (model P w) A (call (.ref u) rest) R E ⟨h, g, d, t, os⟩ := by
  obtain ⟨nm, q, N, bs, bm, sn, sub, ab, col, dd, k0, k1, k2, k3, k5, hC, hbm⟩ := T.cls
  refine wpAny_call (codeAny_of_tree ?_)
  show wpAny _ A.in1 (callAny (.ref u) ⟨rest, []⟩) _ _ _
  simp only [callAny]
  refine wpAny_bind (wpAny_load hu ?_)
  simp only [PySem.W.kxs_mw, show (Value.type "method-wrapper" == Value.type "method" || Value.type "method-wrapper" == Value.type "builtin_function_or_method" || Value.type "method-wrapper" == Value.type "method-wrapper") = true by decide, if_true]
  refine PySem.W.KFB.if_so (by decide) ?_
  refine wpAny_bind (PySem.W.check_bound_init PySem.F.excBase_ValueError.toExcCallFacts (X _ _ hC) hx rfl ?_)
  refine wpAny_bind (wpAny_pure (wpAny_pure ?_))
  refine ⟨plainId_quiet PySem.F.excBase_ValueError.init.plain _, codeAny_builtin PySem.F.excBase_ValueError.initEntry ?_⟩
  exact PySem.W.exc_init_tree (cls := .ref C) (t0 := t1) (dv := none) (c2 := .none) (c3 := .none) (b4 := .bool false) hx hl fun h' k hx' _ => hq h' _ k hx'
/-- the scope of such an __init__ -/
structure SupS (sn lm : Str) (params : Arguments) (scope : Scope) : Prop where
  kind : scope.kind = .function
  co : scope.isCoroutine = false
  gen : scope.isGenerator = false
  nc : ∀ x ∈ scope.names, x.2 ≠ .cell
  sup : scope.names.lookup ("super" : Str) = some .globalImplicit
  cls : scope.names.lookup ("__class__" : Str) = some .free
  slf : scope.names.lookup sn = some .local
  lim : scope.names.lookup lm = some .local
  ne : sn ≠ lm
  dl : (lm == ("__debug__" : Str)) = false
  ds : (sn == ("__debug__" : Str)) = false
  hd : ∃ ar, (params.posonlyargs ++ params.args).head? = some ar ∧ ar.arg = sn
theorem sup_raw {P : Program} {w : World} {A : Around} {R : Result → Shared → Prop} {K : PySem.W.Frag} {C fI cc cda a t1 : Addr} {name qual fld self lm m : Str} {params : Arguments} {body : List Stmt} {scope : Scope} {u : Value} {mg mb : Str → Option Value} {j : Nat} {p0 p1 p2 p3 p4 p5 p6 p7 p8 p9 : Pos}
    {h : Heap} {g : Array GenState} {d : Drawn} {t : Nat} {os : OsState} (F : SupC P K C fI cc cda name qual fld params body scope) (Sc : SupS self lm params scope) (X : K.In h) (lim : h.NoLimit) (hd : A.depth < recursionLimit) (gn : h.Ns mainGlobals mg) (bn : h.Ns builtinsNs mb) (ng : mg "super" = none) (nb : mb "super" = some (.type "super"))
    (hx : h.get? a = some (PySem.HandSPX.excO C t1)) (ka : ∀ b o, K.lookup b = some o → b ≠ a) (hbody : body = [.Expr (.Call (.Attribute (.Call (.Name "super" p0) [] [] p1) "__init__" p2) [.Constant (.str m) j p3] [] p4) p5, .Assign [.Attribute (.Name self p6) fld p7] (.Name lm p8) p9])
    (hbind : ∀ (kV doc pm : Value) (an : Option Addr) (ct : Value) (s : Shared), BindsTo s (PySem.W.ksFn name qual params body scope .none kV doc pm an (.ref cda) ct cc) ⟨[.ref a, u], []⟩ [(self, .ref a), (lm, u)])
    (hev : ∀ env : Env, ∃ pl : Sem Bool, eval (.Call (.Attribute (.Call (.Name "super" p0) [] [] p1) "__init__" p2) [.Constant (.str m) j p3] [] p4) env = (do
      let ov ← attributeBase (.Call (.Name "super" p0) [] [] p1) "__init__" env (eval (.Call (.Name "super" p0) [] [] p1) env)
      standAt p2.atName
      let (f, first) ← holding [ov] (getMethod ov "__init__" pl)
      callWith p4 f first (backTo p4 (starEach [.Constant (.str m) j p3] env)) []))
    (hsw : ∀ env : Env, swapsWith (.Name lm p8) (some (.Attribute (.Name self p6) fld p7)) p9.line env = pure false)
    (htop : (P.main.scope.names.lookup ("super" : Str)).isSome = false)
    (hq : ∀ h' tk' dx t2, (∀ b o, b ≠ a → h.get? b = some o → h'.get? b = some o) → h.objs.size ≤ dx → dx ≠ a → h'.get? a = some { cls := .ref C, dict := some dx, data := .fields #[.ref t2, .none, .none, .none, .bool false, .none] } → h'.Ns1 dx (fun y => if y = fld then some u else none) → R (.ok (.ret .none)) ⟨h', g, d, tk', os⟩) :
    codeAny (model P w) A (.call (.ref fI) ⟨[.ref a, u], []⟩) R ⟨h, g, d, t, os⟩ := by
  obtain ⟨oc, od, kV, doc, pm, an, ct, osl, ho⟩ := F.fn
  obtain ⟨nm, q, N, bs, bm, sn, sub, ab, col, dd, k0, k1, k2, k3, k5, hC, hbm⟩ := F.oex.cls
  have hcl : PySem.W.clsIn K C = some { name := nm, bases := bs, mro := .ref C :: bm, ns := N, qualname := q, hasDict := true, slotNames := sn, subclasses := sub, abstract := ab, collection := col, hasDel := false } := by unfold PySem.W.clsIn; rw [hC] <;> rfl
  obtain ⟨fo1, fo2, vs, fsl, file, tf, hcode, hvs, hfile⟩ := F.file
  obtain ⟨cl, cld, csl, hcell⟩ := F.cell
  obtain ⟨ar, hp, har⟩ := Sc.hd
  refine PySem.ks_codeAny_call_defAt (fd := PySem.W.ksFn name qual params body scope .none kV doc pm an (.ref cda) ct cc) (body := body) (binds := [(self, .ref a), (lm, u)]) hd (X _ _ ho) rfl lim (PySem.W.codeRec_of X F.code) rfl (hbind kV doc pm an ct _) Sc.nc (fun x hx => ?_) (fun h₁ hns hk => ?_) Sc.co Sc.gen Sc.kind
  · simp only [List.mem_cons, List.not_mem_nil, or_false] at hx
    rcases hx with rfl | rfl
    · exact Sc.slf
    · exact Sc.lim
  subst hbody
  have X1 : K.In h₁ := X.keeps fun b o e => hk b o e
  have hns' : h₁.Ns h.objs.size (fun x => [(self, Value.ref a), (lm, u)].reverse.lookup x) := hns
  obtain ⟨env, henv⟩ : ∃ env : Env, env = callEnv (PySem.W.ksFn name qual params [.Expr (.Call (.Attribute (.Call (.Name "super" p0) [] [] p1) "__init__" p2) [.Constant (.str m) j p3] [] p4) p5, .Assign [.Attribute (.Name self p6) fld p7] (.Name lm p8) p9] scope .none kV doc pm an (.ref cda) ct cc) h.objs.size fI := ⟨_, rfl⟩
  have e1 : env.scope = scope := by rw [henv]; rfl
  have e2 : env.locals = h.objs.size := by rw [henv]; rfl
  have hi : interactive env = false := by unfold interactive; rw [e1, Sc.kind]; rfl
  obtain ⟨pl, hev⟩ := hev env
  show PySem.wpAt _ _ _ (execs _ _) _ _ _
  rw [← henv]
  refine PySem.ks_wpAt_execs_cons (PySem.ks_wpAt_Expr_any (PySem.ks_wpAt_MethodCall (pl := pl) ?_ hev) hi)
  have hkS : env.kindOf "super" = some .globalImplicit := by unfold Env.kindOf; rw [e1]; exact Sc.sup
  have hkC : env.kindOf "__class__" = some .free := by unfold Env.kindOf; rw [e1]; exact Sc.cls
  have hkF : env.scope.kind = .function := by rw [e1]; exact Sc.kind
  have hkL : env.kindOf self = some .local := by unfold Env.kindOf; rw [e1]; exact Sc.slf
  have hkM : env.kindOf lm = some .local := by unfold Env.kindOf; rw [e1]; exact Sc.lim
  have gn1 : h₁.Ns mainGlobals mg := gn.keeps hk
  have bn1 : h₁.Ns builtinsNs mb := bn.keeps hk
  have hvS : [(self, Value.ref a), (lm, u)].reverse.lookup self = some (.ref a) := by
    have : (self == lm) = false := by simp [Sc.ne]
    simp [List.lookup, this]
  have hvM : [(self, Value.ref a), (lm, u)].reverse.lookup lm = some u := by simp [List.lookup]
  have hx1 := hk _ _ hx
  have hD1 := X1 _ _ hC
  refine PySem.ks_wpAt_super_base (env := env) hkS hkC (by decide) (by rw [henv]; rfl) (X1 _ _ ho) rfl hp (by rw [henv]; rfl) (X1 _ _ hcode) rfl hvs hfile htop ?_
  refine PySem.W.ks_loadName_global hkF hkS (Calls.loadGlobal_builtin (by rw [henv]; exact gn1) ng (by rw [henv]; exact bn1) nb ⟨rfl, ?_⟩)
  refine wpAny_loadName_free hkF hkC (c := cc) (v := .ref C) (by rw [henv]; rfl) ⟨_, X1 _ _ hcell, rfl⟩ ?_
  rw [har]
  refine wpAny_loadName_local hkF hkL (by rw [e2]; exact hns') hvS ?_
  refine PySem.ks_wpAny_isType_cls hD1 rfl ⟨rfl, ?_⟩
  refine PySem.ks_wpAny_call_super hD1 rfl hx1 rfl (fun c e => nomatch e) (PySem.W.looks_mroIn X1 F.self) (fun h2 es k2 => ?_)
  have X2 : K.In h2 := X1.keeps fun b o e => k2 b o e
  have hx2 := k2 _ _ hx1
  have hsup : PySem.W.alongIn K "__init__" (((Value.ref C :: bm).dropWhile (· != .ref C)).drop 1) = some (some (.builtin "ValueError.__init__")) := by
    have := F.sup
    unfold PySem.W.ks_superIn at this
    rw [hcl] at this
    exact this
  have I2 : PySem.W.InstAt h2 a (PySem.HandSPX.excO C t1) C none := ⟨hx2, rfl, rfl, trivial⟩
  refine PySem.W.kxs_getMethod PySem.W.kxs_ValueError es (PySem.W.looks_opaque X2 F.opq) (l₀ := .ref C :: bm) (fun A Q E s k q => wpAny_bind ((PySem.W.looks_clsIn X2 hcl) A _ E s k (wpAny_pure q))) rfl X2 hsup (I2.type.andThen (PySem.W.looks_subIn X2 F.sub)) (PySem.W.ks_ne X2 I2 hcl) (by decide) ?_
  have hmw : (h2.push (PySem.W.kxs_mw "ValueError.__init__" a)).get? h2.objs.size = some (PySem.W.kxs_mw "ValueError.__init__" a) := Heap.get?_push_at rfl rfl
  have k3 : ∀ b o, h2.get? b = some o → (h2.push (PySem.W.kxs_mw "ValueError.__init__" a)).get? b = some o := fun b o e => Heap.get?_push_of_some _ e
  refine PySem.W.kxs_callWith (i := "ValueError.__init__") (x := a) rfl (Calls.evalArgs_plain ?_)
  refine Calls.spliced_cons (wpAny_Constant_str (k := j) (pos := p3) (Calls.spliced_nil ⟨hmw, ?_⟩))
  have X3 : K.In (h2.push (PySem.W.kxs_mw "ValueError.__init__" a)) := X2.keeps fun b o e => k3 b o e
  refine call_sup F.oex X3 hmw (k3 _ _ hx2) (by show [Value.str m _].length ≤ _; rw [sizeLine_eq]; show 1 ≤ _; decide) fun h4 t2 k4 hx4 => ?_
  show PySem.wpAt _ _ _ (execs _ _) _ _ _
  have k1 : ∀ b o, b ≠ a → h₁.get? b = some o → h4.get? b = some o := fun b o n e => k4 b o n (k3 _ _ (k2 _ _ e))
  have X4 : K.In h4 := fun b o e => k4 b o (ka b o e) (X3 b o e)
  have hLa : h.objs.size ≠ a := fun e => absurd (Heap.lt_size hx) (by rw [e]; exact Nat.lt_irrefl _)
  have hns4 : h4.Ns env.locals (fun x => [(self, Value.ref a), (lm, u)].reverse.lookup x) := by
    rw [e2]
    obtain ⟨oL, es, ep, hL, r⟩ := hns'
    exact ⟨oL, es, ep, k1 _ _ hLa hL, r⟩
  refine PySem.ks_wpAt_execs_cons (PySem.ks_wpAt_Assign_Attr (wpAt_of_wpAny (wpAny_Name (wpAny_loadName_local hkF hkM hns4 hvM ?_) Sc.dl)) (hsw env))
  refine wpAny_Name (wpAny_loadName_local hkF hkL hns4 hvS ?_) Sc.ds
  refine PySem.W.set_plain X4 (ox := PySem.HandSPX.excO C t2) (od := none) ⟨hx4, rfl, rfl, trivial⟩ F.oex.sa ?_
  refine PySem.HandSPX.exc_osa X4 hx4 hcl (show PySem.HandSPX.refsVE (.ref C :: bm) = true from hbm) rfl F.fld (fun h5 tk5 dx k5 dn dne hx5 hn5 => ?_)
  show PySem.wpAt _ _ _ (execs [] env) _ _ _
  refine wpAt_of_wpAny (wpAny_pure ?_)
  obtain ⟨oL, _, _, hL, _⟩ := hns4
  rw [e2] at hL
  exact hq h5 _ dx t2 (fun b o n e => k5 b o n (k1 b o n (hk _ _ e))) (Nat.le_trans (Nat.le_of_lt (Heap.lt_size hL)) dn) dne hx5 hn5
/-- C(e): the exception made, its one field -/
def tMkS (C : Addr) (fld : Str) (ta : TA) : L2.St → Hp → XK → Prop := fun σ H Q => ta σ H fun vs H1 => ∃ v, vs = [v] ∧ ∀ d, H1 d = none → Q (.ref C) (some d) (upd H1 d (.xd [(fld, v)]))
theorem pmk_sup {X : Cx} {x : Str} {C fI cc cda : Addr} {name qual fld self lm m : Str} {params : Arguments} {body : List Stmt} {scope : Scope} {j k : Nat} {p0 p1 p2 p3 p4 p5 p6 p7 p8 p9 p pos : Pos} {e : Expr} {ta : TA}
    (F : SupC X.prog X.K C fI cc cda name qual fld params body scope) (Sc : SupS self lm params scope) (hr : Room (k + 1) X.A) (hg : Gl X x) (hm : X.mg x = some (.ref C)) (hms : X.mg "super" = none) (ha : PA X [e] ta)
    (hbody : body = [.Expr (.Call (.Attribute (.Call (.Name "super" p0) [] [] p1) "__init__" p2) [.Constant (.str m) j p3] [] p4) p5, .Assign [.Attribute (.Name self p6) fld p7] (.Name lm p8) p9])
    (hbind : ∀ (kV doc pm : Value) (an : Option Addr) (ct : Value) (s : Shared) (a u : Value), BindsTo s (PySem.W.ksFn name qual params body scope .none kV doc pm an (.ref cda) ct cc) ⟨[a, u], []⟩ [(self, a), (lm, u)])
    (hev : ∀ env : Env, ∃ pl : Sem Bool, eval (.Call (.Attribute (.Call (.Name "super" p0) [] [] p1) "__init__" p2) [.Constant (.str m) j p3] [] p4) env = (do
      let ov ← attributeBase (.Call (.Name "super" p0) [] [] p1) "__init__" env (eval (.Call (.Name "super" p0) [] [] p1) env)
      standAt p2.atName
      let (f, first) ← holding [ov] (getMethod ov "__init__" pl)
      callWith p4 f first (backTo p4 (starEach [.Constant (.str m) j p3] env)) []))
    (hsw : ∀ env : Env, swapsWith (.Name lm p8) (some (.Attribute (.Name self p6) fld p7)) p9.line env = pure false)
    (htop : (X.prog.main.scope.names.lookup ("super" : Str)).isSome = false)
    (hdb : (x == ("__debug__" : Str)) = false := by decide) (he : starEach [e] X.env = (false, eval e X.env) :: starEach [] X.env := by rfl) :
    L2N.PMk X (.Call (.Name x p) [e] [] pos) (tMkS C fld ta) := by
  intro pins s σ H Q I h
  obtain ⟨nm, q, N, bs, bm, sn, sub, ab, col, dd, k0, k1, k2, k3, k5, hC, hbm⟩ := F.oex.cls
  refine wpAny_Call_Name_kw (ld_glob I hg hm ?_ hdb)
  refine PySem.W.callWith_K (h₀ := X.base) I.ok.mod.kin F.oex.kC (thn (ha.run pos pins s σ H _ I h) fun us s1 ⟨vs, H1, I1, r1, v, ev, q1⟩ => ⟨I1.kIn, ?_⟩) he rfl
  subst ev
  cases r1 with
  | @cons _ u _ ur ru rn =>
  cases rn
  show wpAny _ _ (call (.ref C) [u]) _ _ _
  obtain ⟨hp, g, dr, tk, os⟩ := s1
  have hsz : hp.objs.size ≤ hp.objs.size + 1 := Nat.le_succ _
  have hn : H1 (hp.objs.size + 1) = none := I1.hok.fresh hsz
  have kk : ∀ b o, hp.get? b = some o → ((hp.push (PySem.W.kdv_tup [u])).push (PySem.HandSPX.excO C hp.objs.size)).get? b = some o := fun b o e => Heap.get?_push_of_some _ (Heap.get?_push_of_some _ e)
  have hget : ((hp.push (PySem.W.kdv_tup [u])).push (PySem.HandSPX.excO C hp.objs.size)).get? (hp.objs.size + 1) = some (PySem.HandSPX.excO C hp.objs.size) := by heap_get
  have I2 : Inv X pins σ (upd H1 (hp.objs.size + 1) (exo (hp.objs.size + 1) C none)) ⟨(hp.push (PySem.W.kdv_tup [u])).push (PySem.HandSPX.excO C hp.objs.size), g, dr, tk, os⟩ :=
    I1.laid (t' := tk) (a := hp.objs.size + 1) (o := exo (hp.objs.size + 1) C none) (h' := (hp.push (PySem.W.kdv_tup [u])).push (PySem.HandSPX.excO C hp.objs.size)) kk hsz (exo_ok hget)
  obtain ⟨mb, b1, b2⟩ := I2.mod.blt
  have ka : ∀ b o, X.K.lookup b = some o → b ≠ hp.objs.size + 1 := fun b o e z => by
    have := Heap.lt_size (I1.kIn b o e)
    have : b < hp.objs.size := this
    rw [z] at this
    exact Nat.lt_irrefl _ (Nat.lt_of_succ_lt this)
  refine wpAny_call (PySem.HandSPX.call_own PySem.F.excBase_ValueError (fun Y => PySem.HandSPX.refsVE_contains Y bm hbm) (I1.kIn _ _ hC) (PySem.W.looks_findIn I1.kIn F.ini) (fun self => PySem.W.bind_fn I1.kIn self F.tI) (by show 1 ≤ _; rw [sizeLine_eq]; decide)
    (sup_raw F Sc I2.kIn (I2.ok.mod.nolimit.keeps I2.bk) (hr.make C [u] []).depth (I2.mod.glob.keeps I2.bk) (b1.keeps I2.bk) hms (b2 "super" (by decide)) hget ka hbody (fun kV doc pm an ct s => hbind kV doc pm an ct s _ _) hev hsw htop fun h' tk' dx t2 kh dn dne hx hnn => ?_))
  have e2 : (upd H1 (hp.objs.size + 1) (exo (hp.objs.size + 1) C none)) (hp.objs.size + 1) = some (exo (hp.objs.size + 1) C none) := upd_same
  have hnd : (upd H1 (hp.objs.size + 1) (exo (hp.objs.size + 1) C none)) dx = none := I2.hok.fresh dn
  have hnd1 : H1 dx = none := by rw [← hnd, upd_ne dne]
  have nd : ∀ {b : Addr} {o : Obj}, ((hp.push (PySem.W.kdv_tup [u])).push (PySem.HandSPX.excO C hp.objs.size)).get? b = some o → b ≠ dx := fun {b o} q => Nat.ne_of_lt (Nat.lt_of_lt_of_le (Heap.lt_size q) dn)
  have na : ∀ {b : Addr}, (upd H1 (hp.objs.size + 1) (exo (hp.objs.size + 1) C none)) b = none → b ≠ hp.objs.size + 1 := fun {b} n z => by
    rw [z, e2] at n
    cases n
  have un : Un (frs X.stack) [] (upd H1 (hp.objs.size + 1) (exo (hp.objs.size + 1) C none)) (upd (upd (upd H1 (hp.objs.size + 1) (exo (hp.objs.size + 1) C none)) dx (exd dx [(fld, v)])) (hp.objs.size + 1) (exo (hp.objs.size + 1) C (some dx))) ((hp.push (PySem.W.kdv_tup [u])).push (PySem.HandSPX.excO C hp.objs.size)) h' := {
    keep := fun b o q n _ _ => kh b o (na n) q
    slot := fun b o q n _ _ => ⟨o.slots, kh b o (na n) q⟩
    free := fun b o q n _ => by rw [upd_ne (na n), upd_ne (nd q)]; exact n
    there := fun b o q _ => by
      by_cases hb : b = hp.objs.size + 1
      · exact ⟨_, by rw [hb]; exact hx⟩
      · exact ⟨o, kh b o hb q⟩
    tups := fun b xs q => by rw [upd_ne (at_ne e2 q exo_tup), upd_ne (ne_of_none q hnd)]; exact q
    frzs := fun b o v q => by rw [upd_ne (at_ne e2 q exo_frz), upd_ne (ne_of_none q hnd)]; exact q
    tbls := fun b ps q => ⟨#[], by rw [upd_ne (at_ne e2 q exo_tbl), upd_ne (ne_of_none q hnd), q]; simp⟩ }
  have hok : HOk X.prog X.w (upd (upd (upd H1 (hp.objs.size + 1) (exo (hp.objs.size + 1) C none)) dx (exd dx [(fld, v)])) (hp.objs.size + 1) (exo (hp.objs.size + 1) C (some dx))) h' := fun b o q => by
    by_cases hb : b = hp.objs.size + 1
    · subst hb
      rw [upd_same] at q
      cases q
      exact exo_ok hx
    · rw [upd_ne hb] at q
      by_cases hd : b = dx
      · subst hd
        rw [upd_same] at q
        cases q
        exact exd_ok hnn (relO_put (fs := []) ru fun g => True.intro)
      · rw [upd_ne hd] at q
        exact (I2.hok b o q).stay (fun c v hc z => kh c v (by
            rcases hc with hc | hc
            · rw [hc]
              exact hb
            · exact at_ne e2 hc exo_own) z)
          (fun c hc => by rw [upd_ne (at_ne e2 hc exo_own), upd_ne (ne_of_none hc hnd)]; exact hc) (fun c xs hc => by rw [upd_ne (at_ne e2 hc exo_tup), upd_ne (ne_of_none hc hnd)]; exact hc)
  have eH : upd (del (upd (upd (upd H1 (hp.objs.size + 1) (exo (hp.objs.size + 1) C none)) dx (exd dx [(fld, v)])) (hp.objs.size + 1) (exo (hp.objs.size + 1) C (some dx))) (hp.objs.size + 1)) dx (.xd [(fld, v)]) = upd H1 dx (.xd [(fld, v)]) := by
    funext b
    by_cases h1 : b = dx
    · rw [h1, upd_same, upd_same]
    · rw [upd_ne h1, upd_ne h1]
      by_cases h2 : b = hp.objs.size + 1
      · rw [h2, del_same, hn]
      · rw [del_ne h2, upd_ne h2, upd_ne h1, upd_ne h2]
  obtain ⟨t0, G, J, kG, ge, hoe, na'⟩ := mk_end0 (fs := [(fld, v)]) (d2 := dr) (t2 := tk') (g2 := g) (os2 := os) I1 hsz kk un hok rfl I1.bare upd_same (by rw [upd_ne dne, upd_same]) hnd1
  rw [eH] at J na'
  exact ⟨rfl, _, _, _, ⟨G, g, dr, tk', os⟩, _, .ref C, some dx, rfl, J, kG, ge, hoe, ⟨rfl, rfl, fun vs' e' => by cases e'; rfl⟩, rfl, rfl, na', rfl, I1.bare, raises_own F.oex.exC F.oex.tyC, q1 dx hnd1⟩
end VC

set_option Elab.async false
set_option linter.all false
set_option maxRecDepth 100000
set_option maxHeartbeats 4000000
/-! ZH2: the rule of _law_try, exceptions with fields too. -/
namespace VC
open PySem PySem.Spec PyProof.Rows L2 LamX
def wTryD (k : Nat) (q : Str) (Wb : (XD → Sto → Prop) → WE) : WE := fun env S Q => S[k]? = some (.tbl q) ∧ ∃ Ex Q0, Wb Ex (dropO env) S Q0 ∧ (∀ x S2, Ex x S2 → ∃ word, exWord x.cls = some word ∧ Q (.val (.str word)) env S2) ∧ ∀ t env' S2, Q0 t env' S2 → Q (.val (.tup [.str "told", t.d])) env S2
theorem wTryD_mono {k : Nat} {q : Str} {Wb : (XD → Sto → Prop) → WE} : Mo (wTryD k q Wb) := fun env S Q Q' i ⟨h, Ex, Q0, w, a, b⟩ =>
  ⟨h, Ex, Q0, w, fun x S2 z => by obtain ⟨word, h1, h3⟩ := a x S2 z; exact ⟨word, h1, i _ _ _ h3⟩, fun t e S2 z => i _ _ _ (b t e S2 z)⟩
theorem ve_tryD {X : Cx} {B : Hp} {g0 : Gh} {k ks : Nat} {q : Str} {params : Arguments} {body : Expr} {scope : Scope} {p lpos pos : Pos} {Wb : (XD → Sto → Prop) → WE} (F : TryF X.prog X.w X.K X.mg X.base (k + 1)) (hg : Gl X "_law_try")
    (TB : TabB X.base X.mg (He.cT X.K (q, none)).1 (He.cT X.K (q, none)).2) (hcode : X.env.code = .ref (He.cT X.K (q, none)).1) (hq : X.env.qual ++ "<lambda>" = lamQ q) (hr : Room (k + 2) X.A) (L : LamS X.env.scope scope) (hdef : defaultsOf params X.env = ([], []))
    (hbind : ∀ (q : Str) (cl : List (Str × Addr)) (pm cv ctv : Value), bindArgs (PySem.W.kla_fn "<lambda>" q params body scope cl pm cv ctv) ⟨[], []⟩ = pure [])
    (hb : ∀ (A : Around) (outer : List Env) (s : Shared) (H : Hp) (E : XK) (f c' : Addr) (B' : Hp) (g0' : Gh) (Ex : XD → Sto → Prop), Room k (A.deeper (lamEnv X scope s.heap.objs.size f c')) → XW (lamN X A outer s H E scope f c') B' g0' Ex → VE (lamN X A outer s H E scope f c') B' g0' body (Wb Ex)) :
    VE X B g0 (.Call (.Name "_law_try" p) [.Lambda params body scope lpos] [] pos) (wTryD ks q Wb) := by
  obtain ⟨g, CS, pg, bg, sg, dV, kV, doc, pm, cdv, ct, oc, an, od, osl, hm, hk, lk, hcg, hbd, Sg, hva, hG, hch⟩ := F.ex
  refine VE.of wTryD_mono (pe_lamP (t := fun E σ H Q => ∃ env S g Q0 RX, Rp X.mg X.wk H g g H σ env S ∧ Wb RX env S Q0 ∧ (∀ v H' g' t env' S', Stp g H g' H' → Rp X.mg X.wk H g g' H' σ env' S' → RT X.mg X.wk H g' H' σ env' t v → Q0 t env' S' → Q v H') ∧
      ∀ cls d H' x S' g', Stp g H g' H' → StoOk X.mg X.wk g' H' S' → (∀ a, g'.F a → g.F a ∨ H a = none) → XRep X.mg X.wk g' H' x cls d → RX x S' → E cls d H') hg hm hk lk hcg hbd Sg rfl hva (hG X _ rfl rfl rfl rfl rfl) TB hcode hq hr L hdef hbind
    (fun A outer s H E f c' hr' => ⟨fun pins s' σ H' Q I ⟨env, S, g1, Q0, RX, R, hW, fin, fex⟩ => ?_⟩) (fun E σ H Q Q' i ⟨env, S, g1, Q0, RX, R, hW, fin, fex⟩ => ⟨env, S, g1, Q0, RX, R, hW, fun v H' g' t env' S' a b c d => i _ _ (fin v H' g' t env' S' a b c d), fex⟩)) fun σ H env S g1 Q R q => ?_
  · have xw : XW (lamN X A outer s H E scope f c') H' g1 RX := ⟨fun cls d _ H' => E cls d H', L2N.takes_of rfl rfl rfl rfl, fun cls d σ' H2 y S' g' s1 s2 s3 xr q => fex cls d H2 y S' g' s1 s2 s3 xr q⟩
    exact (hb A outer s H E f c' H' g1 RX hr' xw).pe.run pins s' σ H' Q I ⟨env, S, g1, Q0, R, hW, fun v H2 ⟨g', t, env', S', st, R', rt, q⟩ => fin v H2 g' t env' S' st R' rt q⟩
  · obtain ⟨hS, Ex, Q0, hW, hE, hQ⟩ := q
    have hkl : ks < g1.ρ.length := by rw [R.sto.len]; exact (List.getElem?_eq_some_iff.mp hS).1
    obtain ⟨a, ha⟩ : ∃ a, g1.ρ[ks]? = some a := ⟨_, List.getElem?_eq_getElem hkl⟩
    obtain ⟨rfl, ps, hP, ht, hc⟩ := R.sto.at_ ks a _ ha hS
    refine ⟨ps, hP, ht, fun pos cv h => ?_, fun c' H1 st => ?_⟩
    · obtain ⟨c, e1, _, e3⟩ := hc pos cv h
      exact ⟨c, e1, e3⟩
    · obtain ⟨g2, s2, R2⟩ := R.tab ha hS hP st
      refine ⟨dropO env, S, g2, Q0, Ex, R2.lam, hW, fun v H' g' t env' S' s3 R3 rt q0 pa hp => ?_, fun cls d H' x S' g' s3 so fn xr ex => ?_⟩
      · obtain ⟨g4, s4, R4, rp⟩ := rt.hold R3
        have s5 := s3.trans s4
        have R5 := R2.called s5 R4.sto R4.fN
        have nw : New H' (upd H' pa (.tup [.str "told", v])) := New.upd hp
        have R6 := R5.new nw
        refine ⟨g4, .val (.tup [.str "told", t.d]), env, S', (s2.trans s5).trans (nw.stp R5.sto.tr), R6, ?_, hQ t env' S' q0⟩
        exact Rep.tup upd_same (.cons (.str _) (.cons (Rep.mono (Fz.new nw R5.sto.tr) rp) .nil))
      · obtain ⟨word, hw, hq'⟩ := hE x S' ex
        obtain ⟨⟨C, hmC, rfl⟩, hd⟩ := xr
        have hD : HasD d H' := by
          obtain ⟨xc, xf⟩ := x
          match xf, hd with
          | [], hd => rw [show d = none from hd]; exact HasD.non
          | (f, e) :: _, ⟨dd, v, h1, h2, _⟩ => exact fun d2 e2 => by rw [h1] at e2; cases e2; exact ⟨_, h2⟩
        have R5 := R2.called s3 so fn
        refine ⟨hch _ _ _ hw hmC, C, word, rfl, hD, ⟨_, hmC, hw⟩, fun H'' nw => ⟨g', .val (.str word), env, S', (s2.trans s3).trans (nw.stp R5.sto.tr), R5.new nw, Rep.str word, hq'⟩⟩
end VC

set_option Elab.async false
set_option linter.all false
set_option maxRecDepth 100000
set_option maxHeartbeats 4000000
/-! DD: raise X(e), X an own class whose __init__ keeps e; methods that may raise, instances whose making may raise. -/
namespace VC
open PySem PySem.Spec PyProof.Rows L2
structure ExS (P : Program) (K : PySem.W.Frag) (mg : Str → Option Value) (x fld : Str) : Prop where
  ex : ∃ C, mg x = some (.ref C) ∧ ∀ (X : Cx) (e : Expr) (ta : TA) (p pos : Pos), X.prog = P → X.K = K → X.mg = mg → Room 1 X.A → Gl X x → PA X [e] ta → starEach [e] X.env = (false, eval e X.env) :: starEach [] X.env → L2N.PMk X (.Call (.Name x p) [e] [] pos) (tMkS C fld ta)
section
variable {X : Cx} {B : Hp} {g0 : Gh} {o e : Expr} {es : List Expr} {pos apos p p2 pos2 : Pos} {Ex : XD → Sto → Prop}
def wRaiseF (x fld : Str) (W : WA) (Ex : XD → Sto → Prop) : WS := fun _ env S => W env S fun ds _ S1 => ∃ d, ds = [d] ∧ Ex ⟨x, [(fld, d)]⟩ S1
theorem vs_raiseF {x fld : Str} {W : WA} (hx : XW X B g0 Ex) (F : ExS X.prog X.K X.mg x fld) (hc : X.calm = true) (hr : Room 1 X.A) (hg : Gl X x) (ha : VA X B g0 [e] W) (he : starEach [e] X.env = (false, eval e X.env) :: starEach [] X.env := by rfl) :
    VS X B g0 (.Raise (some (.Call (.Name x p) [e] [] pos)) none pos2) (wRaiseF x fld W Ex) := by
  obtain ⟨C, hm, mk⟩ := F.ex
  obtain ⟨Wx, tk, hW⟩ := hx.ex
  refine VS.of (fun _ _ _ _ _ q => q) (L2N.ps_raise hc tk (mk X e _ p pos rfl rfl rfl hr hg ha.pa he)) fun σ H env S g De R q => ?_
  refine ⟨env, S, g, _, R, q, fun vs H1 ⟨g1, ds, env1, S1, st1, R1, ra, d, ed, hex⟩ => ?_⟩
  subst ed
  cases ra with
  | @cons _ v _ _ rd rn =>
    cases rn
    refine ⟨v, rfl, fun dd hdd => ?_⟩
    have nw : New H1 (upd H1 dd (.xd [(fld, v)])) := New.upd hdd
    have R2 := R1.new nw
    exact hW _ _ σ _ ⟨x, [(fld, d)]⟩ S1 g1 R2.base R2.sto R2.fN ⟨⟨C, hm, rfl⟩, dd, v, rfl, upd_same, rd.mono (Fz.new nw R1.sto.tr)⟩ hex
/-- the promise of a method that may raise; n counts self -/
structure MthX (P : Program) (w : World) (K : PySem.W.Frag) (mg : Str → Option Value) (base : Heap) (C m : Str) (n k : Nat) (sp : FSpec) : Prop where
  mono : MoF sp
  ex : ∃ (Ca f : Addr) (fd : FuncData) (ps : List Str), FnOk P w K mg base (L2N.CX P w) k f fd ps (SpX mg (w, K) n sp) ∧ mg C = some (.ref Ca) ∧ L2.Cls K Ca ∧ Meth K Ca m f ∧ Binds K fd ps []
def wMtX (C m : Str) (n : Nat) (sp : FSpec) (Ex : XD → Sto → Prop) (Wo : WO) (W : WA) : WE := fun env S Q => Wo env S fun od env1 S1 => ∃ (r : Nat) (ns : List Str) (xs : List D), od = .ref r ∧ S1[r]? = some (.ins C ns xs) ∧ m ∉ ns ∧
  W env1 S1 fun ds env2 S2 => ds.length + 1 = n ∧ sp (.ref r :: ds) S2 (fun t S3 => Q t env2 S3) Ex
/-- o.m() -/
def wMtX0 (C m : Str) (sp : FSpec) (Ex : XD → Sto → Prop) (Wo : WO) : WE := fun env S Q => Wo env S fun od env1 S1 => ∃ (r : Nat) (ns : List Str) (xs : List D), od = .ref r ∧ S1[r]? = some (.ins C ns xs) ∧ m ∉ ns ∧
  sp [.ref r] S1 (fun t S3 => Q t env1 S3) Ex
/-- the promise of an __init__ that may raise -/
structure MakX (P : Program) (w : World) (K : PySem.W.Frag) (mg : Str → Option Value) (base : Heap) (C : Str) (n k : Nat) (sp : FSpec) : Prop where
  mono : MoF sp
  ex : ∃ (Ca f : Addr) (fd : FuncData) (ps : List Str), FnOk P w K mg base (L2N.CX P w) k f fd ps (SpX mg (w, K) n sp) ∧ mg C = some (.ref Ca) ∧ Mk K Ca f ∧ Binds K fd ps []
def wMakeX (C : Str) (n : Nat) (sp : FSpec) (Ex : XD → Sto → Prop) (W : WA) : WE := fun env S Q => W env S fun ds env1 S1 => ds.length + 1 = n ∧ sp (.ref S1.length :: ds) (S1 ++ [.ins C [] []]) (fun t S2 => t = .val .non ∧ Q (.val (.ref S1.length)) env1 S2) Ex
end
end VC

set_option Elab.async false
set_option linter.all false
set_option maxRecDepth 100000
set_option maxHeartbeats 4000000
/-! DE: methods with a star parameter that may raise; x in an own object. -/
namespace VC
open PySem PySem.Spec PyProof.Rows L2
def SpRX (mg : Str → Option Value) (w : WK) (n : Nat) (sp : FSpec) : Sp := fun vs H Q E => ∃ g S ds R RE, StoOk mg w g H S ∧ RepAll mg w g H ds vs ∧ n ≤ ds.length ∧ ds.length ≤ 1000000 ∧ sp ds S R RE ∧
  (∀ v H' g' t S', Stp g H g' H' → StoOk mg w g' H' S' → (∀ a, g'.F a → g.F a ∨ H a = none) → RF mg w H g' H' t v → R t S' → Q v H') ∧
  ∀ cls d H' g' x S', Stp g H g' H' → StoOk mg w g' H' S' → (∀ a, g'.F a → g.F a ∨ H a = none) → XRep mg w g' H' x cls d → RE x S' → E cls d H'
def SpBX (mg : Str → Option Value) (w : WK) (N : List Str) (W : (XD → Sto → Prop) → WS) : Sp := fun vs H Q E => ∃ g S ds R RE, StoOk mg w g H S ∧ RepAll mg w g H ds vs ∧ W RE { nx := fun _ s => R (.val .non) s, rt := R } (env0 N.length ds) S ∧
  (∀ v H' g' t S', Stp g H g' H' → StoOk mg w g' H' S' → (∀ a, g'.F a → g.F a ∨ H a = none) → RF mg w H g' H' t v → R t S' → Q v H') ∧
  ∀ cls d H' g' x S', Stp g H g' H' → StoOk mg w g' H' S' → (∀ a, g'.F a → g.F a ∨ H a = none) → XRep mg w g' H' x cls d → RE x S' → E cls d H'
section
variable {P : Program} {w : World} {K : PySem.W.Frag} {mg : Str → Option Value} {base : Heap}
structure MthRX (P : Program) (w : World) (K : PySem.W.Frag) (mg : Str → Option Value) (base : Heap) (C m : Str) (n k : Nat) (sp : FSpec) : Prop where
  mono : MoF sp
  ex : ∃ (Ca f : Addr), FnR P w K mg base (L2N.CX P w) k f (SpRX mg (w, K) n sp) ∧ mg C = some (.ref Ca) ∧ L2.Cls K Ca ∧ Meth K Ca m f
end
section
variable {X : Cx} {B : Hp} {g0 : Gh} {o e a b : Expr} {es : List Expr} {pos apos p : Pos} {Ex : XD → Sto → Prop}
def wMtRX (C m : Str) (n : Nat) (sp : FSpec) (Ex : XD → Sto → Prop) (Wo : WO) (W : WA) : WE := fun env S Q => Wo env S fun od env1 S1 => ∃ (r : Nat) (ns : List Str) (xs : List D), od = .ref r ∧ S1[r]? = some (.ins C ns xs) ∧ m ∉ ns ∧
  W env1 S1 fun ds env2 S2 => (n ≤ ds.length + 1 ∧ ds.length < 1000000) ∧ sp (.ref r :: ds) S2 (fun t S3 => Q t env2 S3) Ex
/-- o.m() of a method with a star parameter -/
def wMtRX0 (C m : Str) (sp : FSpec) (Ex : XD → Sto → Prop) (Wo : WO) : WE := fun env S Q => Wo env S fun od env1 S1 => ∃ (r : Nat) (ns : List Str) (xs : List D), od = .ref r ∧ S1[r]? = some (.ins C ns xs) ∧ m ∉ ns ∧
  sp [.ref r] S1 (fun t S3 => Q t env1 S3) Ex
/-! ### in -/
def rInO (C : Addr) (sp : Sp) (E : XK) : R2 := fun x y H Q => ∃ p dx fs, y = .ref p ∧ H p = some (.ins C dx fs) ∧ sp [.ref p, x] H (fun v H' => ∃ k, v = .bl k ∧ Q (.bl k) H') E
def wInO (C : Str) (sp : FSpec) (Wa : WE) (Wb : WO) : WE := fun env S Q => Wa env S fun t env1 S1 => Wb env1 S1 fun d env2 S2 => ∃ (r : Nat) (ns : List Str) (xs : List D), d = .ref r ∧ S2[r]? = some (.ins C ns xs) ∧ (∃ e, t = .val e ∧
  sp [d, e] S2 (fun t S3 => ∃ k, t = .val (.bl k) ∧ Q (.val (.bl k)) env2 S3) (fun _ _ => False))
end
end VC

set_option Elab.async false
set_option linter.all false
set_option maxRecDepth 100000
set_option maxHeartbeats 4000000
/-! DF: generator methods whose loop walks something; list(o.m()). -/
namespace VC
open PySem PySem.Spec PyProof.Rows L2 GenW
section
variable {M : Model} {A : Around} {R : GenEnd} {Y : Protocol} {n : Nat} {s₀ : Shared} {c : Code} {fs : List Frame} {s : Shared} {env : Env}
  {K : Flow → Sem PySem.Fin} {J : Value → Sem PySem.Fin} {gd : Bool → Bool} {lv : List Value → List Value}
end
section
variable {prog : Program} {w : World} {A : Around} {R : GenEnd} {Y : Protocol} {n : Nat} {s₀ : Shared} {fs : List Frame} {s : Shared} {env : Env}
end
section
variable {X : Cx} {tg iter : Expr} {body : List Stmt} {pos : Pos}
def tGFor (wi : TI) (g : TG) (tb : TGn) : TGn := fun D ys σ H => wi σ H fun J H1 => ∃ W : Nat → Nat → List V → L2.St → Hp → Prop, (∃ m, W 0 m ys σ H1) ∧ ∀ i m ys σ H, W i m ys σ H →
  (J.stop i H ∧ D.nx ys σ H) ∨ (J.go i H ∧ ∃ m', m' < m ∧ ∀ x H', J.yld i H x H' → g x σ H' fun σ2 H2 => tb { D with nx := W (i + 1) m', ct := W (i + 1) m', bk := D.nx } ys σ2 H2)
end
end VC

set_option Elab.async false
set_option linter.all false
set_option maxRecDepth 100000
set_option maxHeartbeats 4000000
/-! DG: generators at the level of data; list(o.m()); f-strings; pop of a list of the store, as a value. -/
namespace VC
open PySem PySem.Spec PyProof.Rows L2
section
variable (X : Cx) (B : Hp) (g0 : Gh)
abbrev WGn := (List D → WEnd) → List D → WEnd
def YQ (g : Gh) (H : Hp) (Q : List D → WEnd) : List V → L2.St → Hp → Prop := fun us σ' H' => ∃ g' env' S' ds, Fz g H g' H' ∧ Rp X.mg X.wk B g0 g' H' σ' env' S' ∧ RepAll X.mg X.wk g' H' ds us ∧ Q ds env' S'
def tGn (W : WGn) : TGn := fun D' us σ H => ∃ env S g ds Q, Rp X.mg X.wk B g0 g H σ env S ∧ RepAll X.mg X.wk g H ds us ∧ W Q ds env S ∧ ∀ us' σ' H', YQ X B g0 g H Q us' σ' H' → D'.nx us' σ' H'
def MoGn (W : WGn) : Prop := ∀ (Q Q' : List D → WEnd) ds env S, (∀ ds e s, Q ds e s → Q' ds e s) → W Q ds env S → W Q' ds env S
structure VGn (st : Stmt) (W : WGn) : Prop where
  mono : MoGn W
  gs : GS X st (tGn X B g0 W)
structure VGns (st : List Stmt) (W : WGn) : Prop where
  mono : MoGn W
  gs : GSs X st (tGn X B g0 W)
end
section
variable {X : Cx} {B : Hp} {g0 : Gh} {st : Stmt} {rest : List Stmt} {e tg iter : Expr} {pos yp : Pos}
theorem _root_.L2.GS.to {t t' : TGn} (h : GS X st t) (i : ∀ D ys σ H, t' D ys σ H → t D ys σ H) : GS X st t' := ⟨fun A S ip R n ys s₀ c fs K J gd lv s σ H D g hn k hI ht => h.run A S ip R n ys s₀ c fs K J gd lv s σ H D g hn k hI (i _ _ _ _ ht)⟩
theorem _root_.L2.GSs.to {t t' : TGn} (h : GSs X rest t) (i : ∀ D ys σ H, t' D ys σ H → t D ys σ H) : GSs X rest t' := ⟨fun A S ip R n ys s₀ c fs K J gd lv s σ H D g hn k hI ht => h.run A S ip R n ys s₀ c fs K J gd lv s σ H D g hn k hI (i _ _ _ _ ht)⟩
theorem YQ.fz {g g1 : Gh} {H H1 : Hp} {Q : List D → WEnd} {us : List V} {σ : L2.St} {H' : Hp} (z : Fz g H g1 H1) : YQ X B g0 g1 H1 Q us σ H' → YQ X B g0 g H Q us σ H' := fun ⟨g', env', S', ds, a, b, c, d⟩ => ⟨g', env', S', ds, z.trans a, b, c, d⟩
def wgNil : WGn := fun Q ds env S => Q ds env S
def wgSeq (W1 W2 : WGn) : WGn := fun Q ds env S => W1 (fun ds e s => W2 Q ds e s) ds env S
def wgP (W : WS) : WGn := fun Q ds env S => W { nx := fun e s => Q ds e s, rt := fun _ _ => False } env S
def wgY (We : WE) : WGn := fun Q ds env S => ds.length < 1000000 ∧ We env S fun t e s => Q (ds ++ [t.d]) e s
def gforW (G : WG) (W : WGn) (Q : List D → WEnd) : List D → List D → WEnd
  | [], ds, env, S => Q ds env S
  | x :: xs, ds, env, S => G x env S fun e s => W (fun ds' => gforW G W Q xs ds') ds e s
theorem gforW_mono {G : WG} {W : WGn} (mg : ∀ d env S (Q Q' : WEnd), (∀ e s, Q e s → Q' e s) → G d env S Q → G d env S Q') (mw : MoGn W) {Q Q' : List D → WEnd} (i : ∀ ds e s, Q ds e s → Q' ds e s) : ∀ xs ds env S, gforW G W Q xs ds env S → gforW G W Q' xs ds env S
  | [], _, _, _, q => i _ _ _ q
  | x :: xs, ds, env, S, q => mg _ _ _ _ _ (fun e s q => mw _ _ _ _ _ (fun ds' e s q => gforW_mono mg mw i xs ds' e s q) q) q
def wgFor (Wi : WA) (G : WG) (W : WGn) : WGn := fun Q ds env S => Wi env S fun items env1 S1 => gforW G W Q items ds env1 S1
end
/-! ### the promise of a generator method -/
abbrev GSpec := List D → Sto → (List D → Sto → Prop) → Prop
def MoGs (sp : GSpec) : Prop := ∀ ds S (R R' : List D → Sto → Prop), (∀ t s, R t s → R' t s) → sp ds S R → sp ds S R'
def SpGn (mg : Str → Option Value) (w : WK) (n : Nat) (sp : GSpec) : SpG := fun vs H Q _ => vs.length = n ∧ ∃ g S ds R, StoOk mg w g H S ∧ RepAll mg w g H ds vs ∧ sp ds S R ∧
  ∀ us H' g' outs S', Stp g H g' H' → StoOk mg w g' H' S' → (∀ a, g'.F a → g.F a ∨ H a = none) → RepAll mg w g' H' outs us → R outs S' → Q us H'
section
variable {P : Program} {w : World} {K : PySem.W.Frag} {mg : Str → Option Value} {base : Heap}
end
structure GMthV (P : Program) (w : World) (K : PySem.W.Frag) (mg : Str → Option Value) (base : Heap) (C m : Str) (k : Nat) (sp : GSpec) : Prop where
  mono : MoGs sp
  ex : ∃ (Ca f : Addr) (fd : FuncData) (ps : List Str), GFn P w K mg base k f fd ps (SpGn mg (w, K) 1 sp) ∧ mg C = some (.ref Ca) ∧ L2.Cls K Ca ∧ Meth K Ca m f ∧ Binds K fd ps []
section
variable {X : Cx} {B : Hp} {g0 : Gh} {o a b e : Expr} {pos apos p q1 q2 q3 cpos : Pos}
/-- list(o.m()), m a generator -/
def wLstM (C m : Str) (sp : GSpec) (Wo : WO) : WE := fun env S Q => Wo env S fun od env1 S1 => ∃ (r : Nat) (ns : List Str) (xs : List D), od = .ref r ∧ S1[r]? = some (.ins C ns xs) ∧ m ∉ ns ∧
  sp [.ref r] S1 fun outs S2 => Q (.own (.lst outs)) env1 S2
/-- {x} of an f-string -/
def txT : T → (Str → Prop) → Prop
  | .val (.str y), K => y.length ≤ 1000 ∧ K y
  | .val (.int i), K => i.natAbs.log2 < 1920 ∧ K (toString i)
  | _, _ => False
theorem txT_mono {t : T} {K K' : Str → Prop} (i : ∀ x, K x → K' x) (h : txT t K) : txT t K' := by
  unfold txT at h ⊢
  split at h <;> first | exact ⟨h.1, i _ h.2⟩ | exact h
def wFs3 (Wa : WE) (s : Str) (Wb : WE) : WE := fun env S Q => Wa env S fun t env1 S1 => txT t fun x => (Str.empty ++ x).length ≤ 1000 ∧ (Str.empty ++ x ++ s).length ≤ 1000 ∧ Wb env1 S1 fun u env2 S2 => txT u fun y => (Str.empty ++ x ++ s ++ y).length ≤ 1000 ∧ Q (.val (.str (Str.empty ++ x ++ s ++ y))) env2 S2
theorem tx_fmt {t : T} {v : V} {g : Gh} {H : Hp} {σ : L2.St} {env : VEnv} {K : Str → Prop} {Q : VK} (rt : RT X.mg X.wk B g H σ env t v) (h : txT t K) (k : ∀ x, K x → Q (.str x) H) : (∃ y : Str, v = .str y ∧ y.length ≤ sizeLine ∧ Q (.str y) H) ∨ ∃ i : Int, v = .int i ∧ i.natAbs.log2 < 1920 ∧ Q (.str (toString i)) H := by
  unfold txT at h
  split at h
  · cases rt; exact .inl ⟨_, rfl, Nat.le_trans h.1 (by decide), k _ h.2⟩
  · cases rt; exact .inr ⟨_, rfl, h.1, k _ h.2⟩
  · exact h.elim
theorem ve_fs3 {Wa Wb : WE} {s : Str} {j : Nat} (ha : VE X B g0 a Wa) (hb : VE X B g0 b Wb) : VE X B g0 (.JoinedStr [.FormattedValue a (-1) none q1, .Constant (.str s) j q2, .FormattedValue b (-1) none q3] pos) (wFs3 Wa s Wb) := by
  refine VE.of (fun _ _ _ _ i q => ha.mono _ _ _ _ (fun _ _ _ q => txT_mono (fun _ q => ⟨q.1, q.2.1, hb.mono _ _ _ _ (fun _ _ _ q => txT_mono (fun _ q => ⟨q.1, i _ _ _ q.2⟩) q) q.2.2⟩) q) q)
    (pe_joined (.cons (pe_fmt ha.pe) (.cons (ve_str (X := X) (B := B) (g0 := g0) (x := s) (j := j) (pos := q2)).pe (.cons (pe_fmt hb.pe) .nil)))) fun σ H env S g Q R q => ?_
  refine ⟨env, S, g, _, R, q, fun v H1 ⟨g1, t, env1, S1, st1, R1, rt, q1⟩ => ?_⟩
  refine tx_fmt (Q := fun x H1 => ∃ y, x = V.str y ∧ (Str.empty ++ y).length ≤ sizeLine ∧ tJs [tE X B g0 (wC (D.str s)), tFmt (tE X B g0 Wb)] (Str.empty ++ y) σ H1 fun out H1 => VQ X B g0 g H σ Q (V.str out) H1) rt q1 fun x q1 => ?_
  have len : ∀ n : Nat, n ≤ 1000 → n ≤ sizeLine := fun n h => Nat.le_trans h (by decide)
  obtain ⟨z1, z2, q1⟩ := q1
  refine ⟨x, rfl, len _ z1, ?_⟩
  refine ⟨env1, S1, g1, fun t e s' => t = .val (.str s) ∧ e = env1 ∧ s' = S1, R1, ⟨rfl, rfl, rfl⟩, fun v2 H2 ⟨g2, t2, env2, S2, st2, R2, rt2, e1, e2, e3⟩ => ?_⟩
  subst e1 e2 e3
  cases rt2
  refine ⟨s, rfl, len _ z2, ?_⟩
  refine ⟨env2, S2, g2, _, R2, q1, fun v3 H3 ⟨g3, u, env3, S3, st3, R3, rt3, q3⟩ => ?_⟩
  refine tx_fmt (Q := fun z H1 => ∃ y, z = V.str y ∧ (Str.empty ++ x ++ s ++ y).length ≤ sizeLine ∧ tJs [] (Str.empty ++ x ++ s ++ y) σ H1 fun out H1 => VQ X B g0 g H σ Q (V.str out) H1) rt3 q3 fun y q3 => ?_
  obtain ⟨z3, q3⟩ := q3
  refine ⟨y, rfl, len _ z3, ?_⟩
  exact ⟨g3, .val (.str _), env3, S3, (st1.trans st2).trans st3, R3, Rep.str _, q3⟩
end
end VC

set_option Elab.async false
set_option linter.all false
set_option maxRecDepth 100000
set_option maxHeartbeats 4000000
/-! DH: o.pop() of a list of the store, as a value. -/
namespace VC
open PySem PySem.Spec PyProof.Rows L2
section
variable {X : Cx} {B : Hp} {g0 : Gh} {o : Expr} {pos apos : Pos}
def wPopR (Wo : WO) : WE := fun env S Q => Wo env S fun od env1 S1 => ∃ (r : Nat) (xs : List D) (d : D), od = .ref r ∧ S1[r]? = some (.lst (xs ++ [d])) ∧ Q (.val d) env1 (S1.set r (.lst xs))
end
end VC

set_option Elab.async false
set_option linter.all false
set_option maxRecDepth 100000
set_option maxHeartbeats 4000000
/-! DI: a promise with exceptions, told to callers that see none. -/
namespace VC
open PySem PySem.Spec PyProof.Rows L2
section
variable {P : Program} {w : World} {K : PySem.W.Frag} {mg : Str → Option Value} {base : Heap} {wk : WK} {C m : Str} {n k : Nat} {sp : FSpec}
theorem spOf_x {vs : List V} {H : Hp} {Q : VK} {E : XK} (h : SpOf mg wk n sp vs H Q E) : SpX mg wk n sp vs H Q E := by
  obtain ⟨hl, g, S, ds, R, so, ra, q, c⟩ := h
  exact ⟨hl, g, S, ds, R, fun _ _ => False, so, ra, q, c, fun cls d H' g' x S' st so' hf xr z => z.elim⟩
theorem spR_x {vs : List V} {H : Hp} {Q : VK} {E : XK} (h : SpR mg wk n sp vs H Q E) : SpRX mg wk n sp vs H Q E := by
  obtain ⟨g, S, ds, R, so, ra, h1, h2, q, c⟩ := h
  exact ⟨g, S, ds, R, fun _ _ => False, so, ra, h1, h2, q, c, fun cls d H' g' x S' st so' hf xr z => z.elim⟩
theorem MthX.plain (F : MthX P w K mg base C m n k sp) : MthV P w K mg base C m n k sp := by
  obtain ⟨Ca, f, fd, ps, G, a, b, c, d⟩ := F.ex
  exact ⟨F.mono, Ca, f, fd, ps, G.imp fun vs H Q E h => spOf_x h, a, b, c, d⟩
theorem MakX.plain (F : MakX P w K mg base C n k sp) : MakV P w K mg base C n k sp := by
  obtain ⟨Ca, f, fd, ps, G, a, b, c⟩ := F.ex
  exact ⟨F.mono, Ca, f, fd, ps, G.imp fun vs H Q E h => spOf_x h, a, b, c⟩
theorem MthRX.plain (F : MthRX P w K mg base C m n k sp) : MthR P w K mg base C m n k sp := by
  obtain ⟨Ca, f, G, a, b, c⟩ := F.ex
  exact ⟨F.mono, Ca, f, G.imp fun vs H Q E h => spR_x h, a, b, c⟩
end
end VC

set_option Elab.async false
set_option linter.all false
set_option maxRecDepth 100000
set_option maxHeartbeats 4000000
/-! W_q: what each def does, printed by gen.py. -/
namespace VC
open PySem PySem.Spec PyProof.Rows L2

end VC

set_option Elab.async false
set_option linter.all false
set_option maxRecDepth 100000
set_option maxHeartbeats 4000000
/-! EA: methods of texts: split, partition, join, startswith. -/
namespace VC
open PySem PySem.Spec PyProof.Rows L2
def opSplit : O2
  | .str a, .str b, K => ((b.length == 0) = false ∧ a.length + 2 ≤ 1000000) ∧ K (.own (.lst ((Txt.split a b).map D.str)))
  | _, _, _ => False
def opPart : O2
  | .str a, .str b, K => ((b.length == 0) = false ∧ a.length ≤ 1000000) ∧ K (.val (.tup [.str (Txt.partition a b).1, .str (Txt.partition a b).2.1, .str (Txt.partition a b).2.2]))
  | _, _, _ => False
def opStarts : O2
  | .str a, .str b, K => K (.val (.bl (Txt.startswith a b)))
  | _, _, _ => False
def opJoin : O2
  | .str a, .lst ds, K => ∃ ys : List Str, ds = ys.map D.str ∧ (ys.map (·.length)).sum + ys.length * a.length ≤ 16777216 ∧ K (.val (.str (Txt.join a ys)))
  | _, _, _ => False
theorem rep_strs {mg : Str → Option Value} {w : WK} {g : Gh} {H : Hp} : ∀ ys : List Str, RepAll mg w g H (ys.map D.str) (ys.map V.str)
  | [] => .nil
  | y :: ys => .cons (.str y) (rep_strs ys)
theorem rep_strs_inv {mg : Str → Option Value} {w : WK} {g : Gh} {H : Hp} : ∀ {ys : List Str} {vs : List V}, RepAll mg w g H (ys.map D.str) vs → vs = ys.map V.str
  | [], _, .nil => rfl
  | y :: ys, _, .cons h t => by
    cases h
    rw [rep_strs_inv t]
    rfl
structure Sm2 (X : Cx) (id : String) (op : O2) : Prop where
  mono : Mo2 op
  run : MtR X id (fun x xs H Q => ∃ y, xs = [y] ∧ rO X op x y H Q)
section
variable {X : Cx}
theorem Sm2.of {id : String} {op : O2} {r : V → List V → Hp → VK → Prop} (mono : Mo2 op) (h : MtR X id r)
    (imp : ∀ (H : Hp) (g : Gh) (d e : D) (x y : V) (K : T → Prop), (∀ a, g.F a → ∃ o, H a = some o) → Cont X.mg X.wk g H d x → Cont X.mg X.wk g H e y → op d e K → ∀ Q : VK, (∀ z H', RK X g H K z H' → Q z H') → r x [y] H Q) : Sm2 X id op :=
  ⟨mono, fun pins s σ H x xs v us Q I rx rs ⟨y, ey, g, d, e, K, tr, c1, c2, q, i⟩ => h pins s σ H x xs v us Q I rx rs (by rw [ey]; exact imp H g d e x y K tr c1 c2 q Q i)⟩
theorem s_split : Sm2 X "str.split" opSplit := by
  refine Sm2.of (fun d e K K' i q => ?_) mt_split fun H g d e x y K tr c1 c2 q Q i => ?_
  · unfold opSplit at q ⊢
    split at q <;> first | exact ⟨q.1, i _ q.2⟩ | exact q
  · unfold opSplit at q
    split at q
    · cases c1.str
      cases c2.str
      exact ⟨_, _, rfl, rfl, q.1.1, Nat.le_trans q.1.2 (by decide), fun p hp => i _ _ (rk_lst tr (rep_strs _) hp q.2)⟩
    · exact q.elim
theorem s_part : Sm2 X "str.partition" opPart := by
  refine Sm2.of (fun d e K K' i q => ?_) mt_partition fun H g d e x y K tr c1 c2 q Q i => ?_
  · unfold opPart at q ⊢
    split at q <;> first | exact ⟨q.1, i _ q.2⟩ | exact q
  · unfold opPart at q
    split at q
    · cases c1.str
      cases c2.str
      exact ⟨_, _, rfl, rfl, q.1.1, Nat.le_trans q.1.2 (by decide), fun p hp => i _ _ (rk_tup tr (rep_strs [_, _, _]) hp q.2)⟩
    · exact q.elim
theorem s_starts : Sm2 X "str.startswith" opStarts := by
  refine Sm2.of (fun d e K K' i q => ?_) mt_startswith fun H g d e x y K tr c1 c2 q Q i => ?_
  · unfold opStarts at q ⊢
    split at q <;> first | exact i _ q | exact q
  · unfold opStarts at q
    split at q
    · cases c1.str
      cases c2.str
      exact ⟨_, _, rfl, rfl, i _ _ (rk_bl q)⟩
    · exact q.elim
theorem s_join : Sm2 X "str.join" opJoin := by
  refine Sm2.of (fun d e K K' i q => ?_) mt_join fun H g d e x y K tr c1 c2 q Q i => ?_
  · unfold opJoin at q ⊢
    split at q
    · obtain ⟨ys, a, b, q⟩ := q
      exact ⟨ys, a, b, i _ q⟩
    · exact q
  · unfold opJoin at q
    split at q
    · obtain ⟨ys, e1, e2, q⟩ := q
      cases c1.str
      obtain ⟨p, vs, rfl, h1, h2⟩ := c2.lst
      rw [e1] at h2
      rw [rep_strs_inv h2] at h1
      exact ⟨_, p, ys, rfl, rfl, .inl (.inl h1), e2, i _ _ (rk_str q)⟩
    · exact q.elim
end
section
variable {X : Cx} {B : Hp} {g0 : Gh} {o e : Expr} {apos pos : Pos}
def wSM (op : O2) (Wo We : WO) : WE := fun env S Q => Wo env S fun d env1 S1 => match d with
  | .str a => We env1 S1 fun e env2 S2 => op (.str a) (dr S2 e) fun t => Q t env2 S2
  | _ => False
theorem ve_sm {id : String} {name : Str} {op : O2} {Wo We : WO} (slot : Slot "str" name id) (ty : typeOf (.builtin id) = pure (.type "method_descriptor")) (hm : Sm2 X id op) (ho : VO X B g0 o Wo) (he : VO X B g0 e We)
    (hs : starEach [e] X.env = [(false, eval e X.env)] := by rfl) (hbase : attributeBase o name X.env (eval o X.env) = eval o X.env := by rfl) (hline : (apos.endLine == pos.line) = true := by rfl) :
    VE X B g0 (.Call (.Attribute o name apos) [e] [] pos) (wSM op Wo We) := by
  refine VE.of (fun env S Q Q' i q => ho.mono _ _ _ _ (fun d _ _ q => ?_) q) (pe_m1 slot ty hm.run ho.pe he.pe hs hbase hline) fun σ H env S g Q R q => ?_
  · split at q
    · exact he.mono _ _ _ _ (fun _ _ _ q => hm.mono _ _ _ _ (fun _ q => i _ _ _ q) q) q
    · exact q
  · refine ⟨env, S, g, _, R, q, fun x H1 ⟨g1, d, env1, S1, st1, R1, t1, q1⟩ => ?_⟩
    dsimp only at q1
    split at q1
    · rename_i a
      have c1 := t1.cont R1.sto
      have ex : x = .str a := c1.str
      subst ex
      refine ⟨⟨a, rfl⟩, env1, S1, g1, _, R1, q1, fun y H2 ⟨g2, d2, env2, S2, st2, R2, t2, q2⟩ => ?_⟩
      refine ⟨y, rfl, g2, .str a, _, _, R2.sto.tr, .inl (.str a), t2.cont R2.sto, q2, fun z H3 ⟨t, hn, rr, k⟩ => ?_⟩
      exact ⟨g2, t, env2, S2, (st1.trans st2).trans (hn.stp R2.sto.tr), R2.new hn, R2.rt hn rr, k⟩
    · exact q1.elim
end
end VC

set_option Elab.async false
set_option linter.all false
set_option maxRecDepth 100000
set_option maxHeartbeats 4000000
/-! ED: slices of texts; a sign in a text; int of a text; a dict display of two. -/
namespace VC
open PySem PySem.Spec PyProof.Rows L2
section
variable {X : Cx} {B : Hp} {g0 : Gh} {e : Expr} {pos p2 : Pos}
def wSlT (Wo : WO) (Wl Wh : WPt) : WE := fun env S Q => Wo env S fun d env1 S1 => Wl env1 S1 fun lo env2 S2 => Wh env2 S2 fun hi env3 S3 => match dr S3 d with
  | .str z => z.length ≤ sizeLine ∧ Q (.val (.str (cutS z lo hi))) env3 S3
  | _ => False
theorem ve_slT {lo hi : Option Expr} {Wo : WO} {Wl Wh : WPt} (h : VO X B g0 e Wo) (hl : VP X B g0 lo Wl) (hh : VP X B g0 hi Wh) : VE X B g0 (.Subscript e (.Slice lo hi none p2) pos) (wSlT Wo Wl Wh) := by
  refine VE.of (fun _ _ _ _ i q => h.mono _ _ _ _ (fun _ _ _ q => hl.mono _ _ _ _ (fun _ _ _ q => hh.mono _ _ _ _ (fun _ _ _ q => ?_) q) q) q) (pe_slice sl_str h.pe hl.po hh.po) fun σ H env S g Q R q => ?_
  · split at q
    · exact ⟨q.1, i _ _ _ q.2⟩
    · exact q
  refine ⟨env, S, g, _, R, q, fun x H1 ⟨g1, d, env1, S1, st1, R1, t1, q1⟩ => ⟨env1, S1, g1, _, R1, q1, fun lo H2 ⟨g2, env2, S2, st2, R2, q2⟩ => ⟨env2, S2, g2, _, R2, q2, fun hi H3 ⟨g3, env3, S3, st3, R3, q3⟩ => ?_⟩⟩⟩
  have c := ((t1.stp st2).stp st3).cont R3.sto
  dsimp only at q3
  split at q3
  · rename_i z hz
    rw [hz] at c
    have ex : x = .str z := c.str
    subst ex
    exact ⟨z, rfl, q3.1, g3, .val (.str _), env3, S3, (st1.trans st2).trans st3, R3, Rep.str _, q3.2⟩
  · exact q3.elim
def opInS : O2
  | .str x, .str z, K => ∃ c, x = ⟨#[c]⟩ ∧ K (.val (.bl (decide (c ∈ z.cps.toList))))
  | _, _, _ => False
theorem o_inS : Op2 X (compareOp .In) opInS := by
  refine Op2.of (fun d e K K' i q => ?_) op_in_sign fun H g d e x y K tr c1 c2 q => ?_
  · unfold opInS at q ⊢
    split at q
    · obtain ⟨c, a, q⟩ := q
      exact ⟨c, a, i _ q⟩
    · exact q
  · unfold opInS at q
    split at q
    · obtain ⟨c, a, q⟩ := q
      subst a
      exact ⟨c, _, c1.str, c2.str, rk_bl q⟩
    · exact q.elim
def opIntS : ON
  | [.str a], K => a.length ≤ 640 ∧ ∃ n, intText? a = some n ∧ K (.val (.int n))
  | _, _ => False
theorem n_intS : OpN X (.type "int") opIntS := by
  refine ⟨fun ds K K' i q => ?_, fun pins s σ H g ds vs us K I tr c r q => ?_⟩
  · unfold opIntS at q ⊢
    split at q
    · obtain ⟨a, n, b, q⟩ := q
      exact ⟨a, n, b, i _ q⟩
    · exact q
  · unfold opIntS at q
    split at q
    · obtain ⟨v, rfl, c1⟩ := c.one
      rw [c1.str] at r
      obtain ⟨a, n, b, q⟩ := q
      exact call_int_str pins s σ H _ us _ I r ⟨_, n, rfl, b, a, rk_rep (.int n) q⟩
    · exact q.elim
end
/-! ### {'x': v, 'y': u} -/
section
variable {X : Cx} {B : Hp} {g0 : Gh} {v1 v2 : Expr} {pos p1 p2 : Pos}
def wDct2 (x y : Str) (W1 W2 : WE) : WE := fun env S Q => W1 env S fun t1 env1 S1 => W2 env1 S1 fun t2 env2 S2 => Q (.own (.dct [.str x, .str y] [t1.d, t2.d])) env2 S2
def D2Q (X : Cx) (B : Hp) (g0 : Gh) (g : Gh) (H : Hp) (σ : L2.St) (x y : Str) (Q : T → VEnv → Sto → Prop) (p : Addr) : List (V × V) → Hp → Prop := fun ps H2 => ∃ u1 u2 g2 d1 d2 env2 S2, ps = [(V.str x, u1), (V.str y, u2)] ∧ Rp X.mg X.wk B g0 g2 H2 σ env2 S2 ∧ Stp g H g2 H2 ∧ H2 p = some (.ext (DictAt p ([], 0))) ∧ (p == sysModules) = false ∧ B p = none ∧ ¬ g2.F p ∧ p ∉ g2.ρ ∧ ¬ OwnAt σ env2 p ∧ H p = none ∧
  Rep X.mg X.wk g2 H2 d1 u1 ∧ Rep X.mg X.wk g2 H2 d2 u2 ∧ Q (.own (.dct [.str x, .str y] [d1, d2])) env2 S2
theorem d2_imp {x y : Str} {W1 W2 : WE} {σ : L2.St} {H : Hp} {env : VEnv} {S : Sto} {g : Gh} {Q : T → VEnv → Sto → Prop} {p : Addr} (R : Rp X.mg X.wk B g0 g H σ env S) (q : wDct2 x y W1 W2 env S Q) (hp : H p = none) (hs : (p == sysModules) = false) :
    tPairs [(tEu X (wC (.str x)), tEu X W1), (tEu X (wC (.str y)), tEu X W2)] σ (upd H p (.ext (DictAt p ([], 0)))) (D2Q X B g0 g H σ x y Q p) := by
  have hn := New.upd (o := HO.ext (DictAt p ([], 0))) hp
  have R0 := R.new hn
  have st0 := hn.stp (g := g) R.sto.tr
  have no0 : ¬ OwnAt σ env p := fun ⟨i, m, e, q⟩ => by
    obtain ⟨a, k1, k2, _⟩ := R.own i m e
    rw [q] at k1; cases k1
    obtain ⟨o, k3, _⟩ := k2.there
    rw [hp] at k3; cases k3
  refine ⟨_, _, env, S, g, fun t e s => t = .val (.str x) ∧ e = env ∧ s = S, R0.rebase, ⟨rfl, rfl, rfl⟩, fun kx H1 ⟨g1, tk, env1, S1, st1, R1, rt1, e1, e2, e3⟩ => ?_⟩
  subst e1 e2 e3
  have ekx : kx = .str x := by cases rt1; rfl
  subst ekx
  obtain ⟨a1, a2, a3, a4⟩ := R1.apart upd_same no0 (R.nF hp) (R.nρ hp)
  refine ⟨_, _, env1, S1, g1, _, R1.rebase, q, fun u1 H2 ⟨g2, t1, env2, S2, st2, R2, rt2, q2⟩ => ?_⟩
  obtain ⟨g2', st2', R2', ru1⟩ := rt2.hold R2
  obtain ⟨b1, b2, b3, b4⟩ := R2'.apart a1 a2 a3 a4
  refine ⟨_, _, env2, S2, g2', fun t e s => t = .val (.str y) ∧ e = env2 ∧ s = S2, R2'.rebase, ⟨rfl, rfl, rfl⟩, fun ky H3 ⟨g3, tk3, env3, S3, st3, R3, rt3, f1, f2, f3⟩ => ?_⟩
  subst f1 f2 f3
  have eky : ky = .str y := by cases rt3; rfl
  subst eky
  obtain ⟨c1, c2, c3, c4⟩ := R3.apart b1 b2 b3 b4
  refine ⟨_, _, env3, S3, g3, _, R3.rebase, q2, fun u2 H4 ⟨g4, t2, env4, S4, st4, R4, rt4, q4⟩ => ?_⟩
  obtain ⟨g4', st4', R4', ru2⟩ := rt4.hold R4
  obtain ⟨d1, d2, d3, d4⟩ := R4'.apart c1 c2 c3 c4
  have RF := R0.unbase (R1.unbase (R2'.unbase (R3.unbase R4')))
  refine ⟨u1, u2, g4', t1.d, t2.d, env4, S4, rfl, RF, (((((st0.trans st1).trans st2).trans st2').trans st3).trans st4).trans st4', d1, hs, R.bn hp, d3, d4, d2, hp, ru1.mono ((st3.trans st4).trans st4').toFz, ru2, q4⟩
theorem d2_fin {σ : L2.St} {H H2 : Hp} {g g2 : Gh} {env2 : VEnv} {S2 : Sto} {Q : T → VEnv → Sto → Prop} {p : Addr} {x y : Str} {d1 d2 : D} {es : List DictEntry} {ep : Nat} (R : Rp X.mg X.wk B g0 g2 H2 σ env2 S2) (st : Stp g H g2 H2) (h2 : H2 p = some (.ext (DictAt p ([], 0)))) (hs : (p == sysModules) = false) (hB : B p = none) (nF : ¬ g2.F p) (nρ : p ∉ g2.ρ) (no : ¬ OwnAt σ env2 p) (hp : H p = none)
    (hne : x ≠ y) (r : RepEs X.mg X.wk g2 H2 [.str x, .str y] [d1, d2] es) (q : Q (.own (.dct [.str x, .str y] [d1, d2])) env2 S2) : VQ X B g0 g H σ Q (.ref p) (upd H2 p (.ext (DictAt p (es, ep)))) := by
  have z : Fz g2 H2 g2 (upd H2 p (.ext (DictAt p (es, ep)))) := Fz.upd h2 (fun _ q => nomatch q) nF
  have RM := R.mut (u := .ext (DictAt p (es, ep))) h2 (fun _ q => nomatch q) nF nρ hB (fun j m e q => no ⟨j, m, e, q⟩)
  refine ⟨g2, .own (.dct [.str x, .str y] [d1, d2]), env2, S2, ⟨st.toFz.trans z, fun a o e ha => ?_, st.rN⟩, RM, ⟨p, rfl, ⟨es, ep, upd_same, hs, r.mono z, ?_⟩, hB, nF, nρ, fun i m' e q => no ⟨i, m', e, q⟩⟩, q⟩
  · have na : a ≠ p := fun q => by rw [q, hp] at e; cases e
    rw [upd_ne na]
    exact st.oth a o e ha
  · simp [D.key, hne]
theorem ve_dct2 {x y : Str} {j1 j2 : Nat} {W1 W2 : WE} (h1 : ∀ B' g', VE X B' g' v1 W1) (h2 : ∀ B' g', VE X B' g' v2 W2) (hne : x ≠ y) : VE X B g0 (.Dict [some (.Constant (.str x) j1 p1), some (.Constant (.str y) j2 p2)] [v1, v2] pos) (wDct2 x y W1 W2) := by
  refine ⟨fun _ _ _ _ i q => (h1 B g0).mono _ _ _ _ (fun _ _ _ q => (h2 B g0).mono _ _ _ _ (fun _ _ _ q => i _ _ _ q) q) q, ⟨fun pins s σ H Q I ⟨env, S, g, Q0, R, hW, i⟩ => ?_⟩⟩
  have pps : PPs X pos [some (.Constant (.str x) j1 p1), some (.Constant (.str y) j2 p2)] [v1, v2] [(tEu X (wC (.str x)), tEu X W1), (tEu X (wC (.str y)), tEu X W2)] := pps_cons (pe_u fun B' g' => ve_str) (pe_u h1) (pps_cons (pe_u fun B' g' => ve_str) (pe_u h2) pps_nil)
  have hb : (s.heap.objs.size == sysModules) = false := beq_eq_false_iff_ne.mpr (Ne.symm (Nat.ne_of_lt I.big))
  have hn := I.hok.fresh (Nat.le_refl s.heap.objs.size)
  have ok : DictAt s.heap.objs.size ([], 0) (s.heap.push { cls := .type "dict", data := .dict #[] }) := ⟨_, Heap.get?_push_size _ rfl, ⟨rfl, rfl, rfl⟩, rfl⟩
  have I1 := I.laid (a := s.heap.objs.size) (o := .ext (DictAt s.heap.objs.size ([], 0))) (h' := s.heap.push { cls := .type "dict", data := .dict #[] }) (t' := s.toks) (fun _ _ q => Heap.get?_push_of_some _ q) (Nat.le_refl _) (dictAt_ok ok)
  refine wpAny_Dict_walk (knd := mixKind X.prog X.w) rfl rfl (by simp) (by simp) (thn (pps.run pins _ σ _ _ I1 (d2_imp R hW hn hb)) fun vs s2 ⟨ps, H2, I2, rel, z⟩ => ?_)
  obtain ⟨u1, u2, g2, d1, d2, env2, S2, rfl, R2, st, h2, _, hB, nF, nρ, no, hp, r1, r2, q⟩ := z
  cases rel with
  | @cons a b as bs ha t =>
    cases t with
    | @cons a' b' as' bs' ha' t' =>
      cases t'
      obtain ⟨bk, bv⟩ := b
      obtain ⟨bk', bv'⟩ := b'
      obtain ⟨k1, k2⟩ := ha
      obtain ⟨k3, k4⟩ := ha'
      have ki : keyIs (.inr x) bk = true := keyIs_of (P := X.prog) (w := X.w) (mg := X.mg) (w' := X.wk) (g := g2) (H := H2) (k := .inr x) (.str x) k1
      have ki' : keyIs (.inr y) bk' = true := keyIs_of (P := X.prog) (w := X.w) (mg := X.mg) (w' := X.wk) (g := g2) (H := H2) (k := .inr y) (.str y) k3
      obtain ⟨o, e1, e2, e3⟩ := Inv.dct I2 h2
      refine ⟨[(.inr x, bv), (.inr y, bv')], ⟨ki, rfl, ki', rfl, trivial⟩, ⟨o, _, _, e1, e2, e3, fun e h => by simp at h, .nil, List.nodup_nil⟩, fun h' dd sb => ?_⟩
      obtain ⟨o', es', ep', f1, f2, f3, f4, f5, f6⟩ := dd
      have pd : DictAt s.heap.objs.size (es'.toList, ep') h' := ⟨o', f1, f2, by rw [f3]⟩
      have I3 : ∀ tk, Inv X pins σ (upd H2 s.heap.objs.size (.ext (DictAt s.heap.objs.size _))) { s2 with heap := h', toks := tk } := fun tk => d_write I2 (by rw [h2]; exact True.intro) sb ⟨o', f1⟩ (dictAt_ok pd)
      have mk : merged ([] : List (Key × Value)) [(.inr x, bv), (.inr y, bv')] = [(.inr x, bv), (.inr y, bv')] := by
        have : ¬ (Sum.inr x : Key) = Sum.inr y := fun z => hne (by injection z)
        simp [merged, stored, this]
      rw [mk] at f5
      have r : RepEs X.mg X.wk g2 H2 [.str x, .str y] [d1, d2] es'.toList := LL3.es (P := X.prog) (w := X.wk) (kvs := [(.inr x, bv), (.inr y, bv')]) (.cons (x := (.inr x, bv)) r1 k2 (.cons (x := (.inr y, bv')) r2 k4 .nil)) f5 fun e he => f4 e (by simpa using he)
      exact ⟨.ref _, _, I3 _, rfl, i _ _ (d2_fin R2 st h2 hb hB nF nρ no hp hne r q)⟩
end
end VC

set_option Elab.async false
set_option linter.all false
set_option maxRecDepth 100000
set_option maxHeartbeats 4000000
/-! EE: try: .. except X as e: return e.f. -/
namespace VC
open PySem PySem.Spec PyProof.Rows L2
/-- what is asked of the class that is caught and its field -/
structure XfF (K : PySem.W.Frag) (mg : Str → Option Value) (x fld : Str) : Prop where
  ex : ∃ C, mg x = some (.ref C) ∧ XfC K C ∧ PySem.W.findIn K (.ref C) fld = some none ∧ PySem.W.exmOne K (.ref C) (.ref C) = some true
structure LeE (D D' : WEnds) : Prop where
  nx : ∀ e s, D.nx e s → D'.nx e s
  rt : ∀ t s, D.rt t s → D'.rt t s
  bk : ∀ e s, D.bk e s → D'.bk e s
  ct : ∀ e s, D.ct e s → D'.ct e s
theorem LeE.refl (D : WEnds) : LeE D D := ⟨fun _ _ h => h, fun _ _ h => h, fun _ _ h => h, fun _ _ h => h⟩
def wTryAs (x fld : Str) (Wb : (XD → Sto → Prop) → WS) : WS := fun De env S => ∃ Ex De0, Wb Ex De0 env S ∧ LeE De0 De ∧ ∀ y S', Ex y S' → y.cls = x ∧ ∃ d, y.fs = [(fld, d)] ∧ De.rt (.val d) S'
theorem NQ.le {X : Cx} {B : Hp} {g0 g : Gh} {H : Hp} {Q Q' : WEnd} (i : ∀ e s, Q e s → Q' e s) {σ : L2.St} {H' : Hp} (h : NQ X B g0 g H Q σ H') : NQ X B g0 g H Q' σ H' := by
  obtain ⟨a, b, c, d, e, q⟩ := h
  exact ⟨a, b, c, d, e, i _ _ q⟩
theorem KQ.le {X : Cx} {B : Hp} {g0 g : Gh} {H : Hp} {Q Q' : T → Sto → Prop} (i : ∀ e s, Q e s → Q' e s) {v : V} {H' : Hp} (h : KQ X B g0 g H Q v H') : KQ X B g0 g H Q' v H' := by
  obtain ⟨a, b, c, d, e, f, k, q⟩ := h
  exact ⟨a, b, c, d, e, f, k, i _ _ q⟩
section
variable {X : Cx} {B : Hp} {g0 : Gh}
theorem take0N : L2N.Takes X (fun _ _ _ _ => False) := fun _ _ x => by
  obtain ⟨_, _, _, _, _, _, _, _, _, _, _, _, _, _, _, _, z⟩ := x
  exact z.elim
theorem vs_tryAs {i : Nat} {x n fld : Str} {body : List Stmt} {np p1 p2 p3 pos pos' : Pos} {Wb : (XD → Sto → Prop) → WS} (hs : X.stack = X.env :: X.outer) (hf : X.env.frame = some X.env.locals) (hN : X.N.Nodup) (hi : X.N[i]? = some n) (hln : X.env.kindOf n = some .local) (hg : Gl X x) (hdb : (x == ("__debug__" : Str)) = false)
    (hv : Vis X.env.scope n) (hdn : (n == ("__debug__" : Str)) = false) (hcn : (n == ("__classdict__" : Str)) = false) (F : XfF X.K X.mg x fld)
    (hb : ∀ (pn : List (Addr × Obj)) (xe : Value → Shared → Prop) (Ex : XD → Sto → Prop), XW (X.tr pn xe) B g0 Ex → PassesOwn (model X.prog X.w) X.A X.env xe → VSs (X.tr pn xe) B g0 body (Wb Ex))
    (hat : ∀ env : Env, attributeBase (.Name n p1) fld env (eval (.Name n p1) env) = eval (.Name n p1) env := by intro _; rfl) :
    VS X B g0 (.Try body [.ExceptHandler (some (.Name x np)) (some n) [.Return (some (.Attribute (.Name n p1) fld p2)) p3] pos'] [] [] pos) (wTryAs x fld Wb) := by
  obtain ⟨C, hm, T, hno, hex⟩ := F.ex
  let tb : L2.WX → TS := fun W D σ H => ∃ env S g De Ex, Rp X.mg X.wk B g0 g H σ env S ∧ Wb Ex De env S ∧ SQ X B g0 g H De D ∧ ∀ cls d σ' H' y S' g', Stp g0 B g' H' → StoOk X.mg X.wk g' H' S' → (∀ a, g'.F a → g0.F a ∨ B a = none) → XRep X.mg X.wk g' H' y cls d → Ex y S' → σ'.length = X.N.length → W cls d σ' H'
  have pst := L2N.ps_try_as (X := X) (x := x) (n := n) (c := .ref C) (i := i) (body := body) (b₀ := .Return (some (.Attribute (.Name n p1) fld p2)) p3) (suite := []) (np := np) (pos := pos) (pos' := pos') (Wout := fun _ _ _ _ => False) (tb := tb)
    (ts := fun a cls d => tRet (tXf a cls d C fld (tVar i))) hs hf hN hi hln ⟨hg, hdb, .inl hm⟩ take0N
    (fun W pn xe tk po => ⟨fun pins s σ H D I ⟨env, S, g, De, Ex, R, hW, sq, hx⟩ => (hb pn xe Ex ⟨_, takes_len tk, fun cls d σ' H' y S' g' s1 s2 s3 xr q => hx cls d σ' H' y S' g' s1 s2 s3 xr q⟩ po).ps.run pins s σ H D I ⟨env, S, g, De, R, hW, ⟨sq.nx, sq.rt, sq.bk, sq.ct⟩⟩⟩)
    (fun a oe cls d pn hz hfl => pss_one (ps_ret (pe_xf T hno hz.zc hfl (pe_var (X := X.suite a ((a, oe) :: pn)) hi hv hdn hcn) (hat _))))
  refine VS.of (fun env S D D' i ⟨Ex, De0, hw, le, hx⟩ => ⟨Ex, De0, hw, ⟨fun e s h => i.nx _ _ (le.nx e s h), fun e s h => i.rt _ _ (le.rt e s h), fun e s h => i.bk _ _ (le.bk e s h), fun e s h => i.ct _ _ (le.ct e s h)⟩, fun y S' h => by obtain ⟨a, d, b, c⟩ := hx y S' h; exact ⟨a, d, b, i.rt _ _ c⟩⟩) pst fun σ H env S g De R ⟨Ex, De0, hw, le, hx⟩ => ?_
  refine ⟨env, S, g, De0, Ex, R, hw, ⟨fun _ _ h => NQ.le le.nx h, fun _ _ h => KQ.le le.rt h, fun _ _ h => NQ.le le.bk h, fun _ _ h => NQ.le le.ct h⟩, fun cls d σ' H' y S' g' st so hF xr hy hlen => ?_⟩
  obtain ⟨ec, dd, ef, hrt⟩ := hx y S' hy
  obtain ⟨⟨C', hC', rfl⟩, h2⟩ := xr
  rw [ec, hm] at hC'
  cases hC'
  rw [ef] at h2
  obtain ⟨da, v, rfl, ha, rv⟩ := h2
  refine ⟨true, hex, fun _ a hna => ?_, fun z => nomatch z⟩
  have rn : ∀ b ∈ g'.ρ, ∀ vs, B b ≠ some (.tup vs) := fun b hb' vs e => by
    rcases st.rN b hb' with k | k
    · obtain ⟨t, et⟩ := R.base.ρ
      exact R.noTup b (by rw [et]; exact List.mem_append_left _ k) vs e
    · rw [k] at e; cases e
  have hl : i < σ'.length := by rw [hlen]; exact (List.getElem?_eq_some_iff.mp hi).1
  refine ⟨.ref a, List.getElem?_set_self hl, rfl, rfl, da, [(fld, v)], v, rfl, ha, by simp [List.lookup], ?_⟩
  exact ⟨g', .val dd, [], [], S', ⟨so, rfl, fun i d q => (nomatch q), fun i m q => (nomatch q), fun i j m m' a q => (nomatch q), st, hF, rn⟩, rv, hrt⟩
end
end VC

set_option Elab.async false
set_option linter.all false
set_option maxRecDepth 100000
set_option maxHeartbeats 4000000
/-! EF: loops in defs that may raise. -/
namespace VC
open PySem PySem.Spec PyProof.Rows L2
theorem owns_cxY {P : Program} {w : World} {K : PySem.W.Frag} {mg : Str → Option Value} {base : Heap} {N : List Str} {qual : Str} {sc : Scope} {f : Addr} {cdv : Value} {A : Around} {outer : List Env} {s : Shared} {H : Hp} {E : XK} :
    PassesOwn (model P w) (cxY P w K mg base N qual sc f cdv A outer s H E).A (cxY P w K mg base N qual sc f cdv A outer s H E).env (cxY P w K mg base N qual sc f cdv A outer s H E).xe :=
  passes_of (X := cxY P w K mg base N qual sc f cdv A outer s H E) (K := fun e s'' => L2N.CX P w outer H s E e s'') (E₁ := fun e s'' => L2N.CX P w outer H s E e s'') rfl
end VC

set_option Elab.async false
set_option linter.all false
set_option maxRecDepth 100000
set_option maxHeartbeats 4000000
/-! W_r: what each def does, printed by gen.py. -/
namespace VC
open PySem PySem.Spec PyProof.Rows L2

def wf_stage_text : WS :=
  (wRet (wSM opJoin (oE (wC (.str " "))) (oE (wB opAdd (oE (wLst (wAC (wB opIxX (oV 0) (oE (wC (.int 0)))) wA0))) (oE (wLc [1] (iW (wSl (oV 0) (pS (wC (.int 1))) pN)) (gN 1) wYes (wCB opStr1 (wUC (oV 1) wA0))))))))

def wf_chain_text (sp_stage_text : FSpec) (sp_need_chain : FSpec) : WS :=
  (wSeq (wDrop (wCall 1 sp_need_chain (wAC (wV 0) wA0)))
  (wSeq (wSet 1 (wFs3 (wB opIxX (oV 0) (oE (wC (.int 0)))) " from " (wB opIxX (oV 0) (oE (wC (.int 1))))))
  (wRet (wIf (wTst (wB (opEq true) (oE (wB opIxX (oV 0) (oE (wC (.int 2))))) (oE (wTup wA0)))) (wSM opJoin (oE (wC (.str ": "))) (oE (wB opAdd (oE (wLst (wAC (wV 1) wA0))) (oE (wLst (wAC (wSM opJoin (oE (wC (.str ", "))) (oE (wLc [2] (iW (wB opIxX (oV 0) (oE (wC (.int 2))))) (gN 2) wYes (wCall 1 sp_stage_text (wAC (wV 2) wA0))))) wA0)))))) (wV 1)))))

def wf_number_in : WS :=
  (wRet (wIf (wAnd (wTst (wB (opEq false) (oE (wCB opLenX (wUC (oV 0) wA0))) (oE (wC (.int 1))))) (wTst (wB opInS (oV 0) (oE (wC (.str "0123456789")))))) (wCB opIntS (wUC (oV 0) wA0)) (wC .non)))

def wf_stage_in (sp_number_in : FSpec) : WS :=
  (wSeq (wSet 1 (wSM opSplit (oV 0) (oE (wC (.str " ")))))
  (wRet (wB opAdd (oE (wTup (wAC (wB opIxX (oV 1) (oE (wC (.int 0)))) wA0))) (oE (wCB opTuple (wUC (oE (wLc [2] (iW (wSl (oV 1) (pS (wC (.int 1))) pN)) (gN 2) wYes (wCall 1 sp_number_in (wAC (wV 2) wA0)))) wA0))))))

def wf_chain_in (sp_is_chain_of : FSpec) (sp_number_in : FSpec) (sp_stage_in : FSpec) : WS :=
  (wSeq (wAsg (wSM opPart (oV 0) (oE (wC (.str ": ")))) (gT (gCs (gN 1) (gCs (gN 2) (gCs (gN 3) gNl)))))
  (wSeq (wSet 4 (wSM opSplit (oV 1) (oE (wC (.str " ")))))
  (wSeq (wIfS (wOr (wTst (wB (opEq true) (oE (wCB opLenX (wUC (oV 4) wA0))) (oE (wC (.int 3))))) (wTst (wB (opEq true) (oE (wB opIxX (oV 4) (oE (wC (.int 1))))) (oE (wC (.str "from"))))))
  (wRet (wC .non))
  wNil)
  (wSeq (wSet 5 (wIf (wTst (wB (opEq true) (oV 2) (oE (wC (.str ""))))) (wCB opTuple (wUC (oE (wLc [7] (iW (wSM opSplit (oV 3) (oE (wC (.str ", "))))) (gN 7) wYes (wCall 1 sp_stage_in (wAC (wV 7) wA0)))) wA0)) (wTup wA0)))
  (wSeq (wSet 6 (wTup (wAC (wCall 1 sp_number_in (wAC (wB opIxX (oV 4) (oE (wC (.int 0)))) wA0)) (wAC (wCall 1 sp_number_in (wAC (wB opIxX (oV 4) (oE (wC (.int 2)))) wA0)) (wAC (wV 5) wA0)))))
  (wRet (wIf (wTst (wCall 1 sp_is_chain_of (wAC (wV 6) wA0))) (wV 6) (wC .non))))))))

def wfx_read_chains (sp_chain_in : FSpec) (Ex : XD → Sto → Prop) : WS :=
  (wSeq (wIfS (wNot (wTst (wIsi isStr (oV 0))))
  (wRaiseF "InvalidText" "line" (wAC (wC (.int 0)) wA0) Ex)
  wNil)
  (wSeq (wSet 1 (wTup wA0))
  (wSeq (wFor (iEn (wAC (wIf (wTst (wB (opEq true) (oV 0) (oE (wC (.str ""))))) (wSM opSplit (oV 0) (oE (wC (.str ⟨#[10]⟩)))) (wLst wA0)) wA0)) (gT (gCs (gN 2) (gCs (gN 3) gNl)))
  (wSeq (wSet 4 (wCall 1 sp_chain_in (wAC (wV 3) wA0)))
  (wSeq (wIfS (wTst (wB (opIs false) (oV 4) (oE (wC .non))))
  (wRaiseF "InvalidText" "line" (wAC (wB opAdd (oV 2) (oE (wC (.int 1)))) wA0) Ex)
  wNil)
  (wSet 1 (wB opAdd (oV 1) (oE (wTup (wAC (wV 4) wA0))))))))
  (wRet (wMv 1)))))

def wf_law_text : WS :=
  (wSeq (wSet 1 (wLc [2] (iW (wB opIxX (oV 0) (oE (wC (.int 2))))) (gN 2) wYes (wSM opJoin (oE (wC (.str " "))) (oE (wB opAdd (oE (wLst (wAC (wB opIxX (oV 2) (oE (wC (.int 0)))) wA0))) (oE (wLc [3] (iW (wSl (oV 2) (pS (wC (.int 1))) pN)) (gN 3) wYes (wCB opStr1 (wUC (oV 3) wA0)))))))))
  (wRet (wB opAdd (oE (wB opAdd (oE (wB opAdd (oE (wCB opStr1 (wUC (oE (wB opIxX (oV 0) (oE (wC (.int 0))))) wA0))) (oE (wC (.str " from "))))) (oE (wCB opStr1 (wUC (oE (wB opIxX (oV 0) (oE (wC (.int 1))))) wA0))))) (oE (wIf (wTst (wB (opEq true) (oV 1) (oE (wLst wA0)))) (wB opAdd (oE (wC (.str ": "))) (oE (wSM opJoin (oE (wC (.str ", "))) (oV 1)))) (wC (.str "")))))))

def wf_law_stages : WS :=
  (wSeq (wSet 1 (wDct2 "hold 1" "hold 2" (wTup (wAC (wC (.str "hold")) (wAC (wC (.int 1)) wA0))) (wTup (wAC (wC (.str "hold")) (wAC (wC (.int 2)) wA0)))))
  (wSeq (wFor (iR1 (wAC (wC (.int 6)) wA0)) (gN 2)
  (wFor (iR1 (wAC (wC (.int 6)) wA0)) (gN 3)
  (wFor (iW (wTup (wAC (wC (.str "slew")) (wAC (wC (.str "clip")) (wAC (wC (.str "gate")) wA0))))) (gN 4)
  (wIfS (wOr (wTst (wB (opEq false) (oV 4) (oE (wC (.str "slew"))))) (wTst (wCh opLe opLe (oV 2) (oV 3) (oV 0))))
  (wSetX 1 (wTup (wAC (wV 4) (wAC (wV 2) (wAC (wV 3) wA0)))) (oE (wB opAdd (oE (wB opAdd (oE (wB opAdd (oE (wB opAdd (oV 4) (oE (wC (.str " "))))) (oE (wCB opStr1 (wUC (oV 2) wA0))))) (oE (wC (.str " "))))) (oE (wCB opStr1 (wUC (oV 3) wA0))))))
  wNil))))
  (wRet (wMv 1))))

def wf_law_read (sp__law_stages : FSpec) : WS :=
  (wSeq (wFor (iR2 (wAC (wC (.int 1)) (wAC (wC (.int 6)) wA0))) (gN 1)
  (wFor (iR1 (wAC (wB opAdd (oV 1) (oE (wC (.int 1)))) wA0)) (gN 2)
  (wSeq (wSet 3 (wB opAdd (oE (wB opAdd (oE (wCB opStr1 (wUC (oV 1) wA0))) (oE (wC (.str " from "))))) (oE (wCB opStr1 (wUC (oV 2) wA0)))))
  (wSeq (wIfS (wTst (wB (opEq false) (oV 0) (oV 3)))
  (wRet (wTup (wAC (wV 1) (wAC (wV 2) (wAC (wTup wA0) wA0)))))
  wNil)
  (wIfS (wTst (wSM opStarts (oV 0) (oE (wB opAdd (oV 3) (oE (wC (.str ": ")))))))
  (wSeq (wPr2 4 5 (wLC (wCall 1 sp__law_stages (wAC (wV 1) wA0)) (wLC (wSM opSplit (oE (wSlT (oV 0) (pS (wB opAdd (oE (wCB opLenX (wUC (oV 3) wA0))) (oE (wC (.int 2))))) pN)) (oE (wC (.str ", ")))) wL0)))
  (wSeq (wSet 6 (wCB opTuple (wUC (oE (wLc [8] (iW (wV 5)) (gN 8) wYes (wMth opGet (oV 4) (wUC (oV 8) (wUC (oE (wC .non)) wA0))))) wA0)))
  (wSeq (wSet 7 (wLc [9] (iW (wV 6)) (gN 9) (wAnd (wTst (wB (opIs true) (oV 9) (oE (wC .non)))) (wTst (wB (opEq true) (oE (wB opIxX (oV 9) (oE (wC (.int 0))))) (oE (wC (.str "clip")))))) (wV 9)))
  (wRet (wIf (wAnd (wTst (wB (opInX true) (oE (wC .non)) (oV 6))) (wAnd (wTst (wB opLt (oE (wCB opLenX (wUC (oV 6) wA0))) (oE (wC (.int 4))))) (wTst (wB opLt (oE (wCB opLenX (wUC (oV 7) wA0))) (oE (wC (.int 3))))))) (wTup (wAC (wV 1) (wAC (wV 2) (wAC (wV 6) wA0)))) (wC .non))))))
  wNil)))))
  (wRet (wC .non)))

def wf_law_due (sp__law_read : FSpec) : WS :=
  (wSeq (wSet 1 (wTup wA0))
  (wSeq (wFor (iEn (wAC (wIf (wTst (wB (opEq true) (oV 0) (oE (wC (.str ""))))) (wSM opSplit (oV 0) (oE (wC (.str ⟨#[10]⟩)))) (wLst wA0)) wA0)) (gT (gCs (gN 2) (gCs (gN 3) gNl)))
  (wSeq (wSet 4 (wCall 1 sp__law_read (wAC (wV 3) wA0)))
  (wSeq (wIfS (wTst (wB (opIs false) (oV 4) (oE (wC .non))))
  (wRet (wB opAdd (oV 2) (oE (wC (.int 1)))))
  wNil)
  (wSet 1 (wB opAdd (oV 1) (oE (wTup (wAC (wV 4) wA0))))))))
  (wRet (wMv 1))))

def wf_law_told (spx_read_chains : FSpec) : WS :=
  (wTryAs "InvalidText" "line" (fun Ex2 => (wRet (wCallX 1 spx_read_chains Ex2 (wAC (wV 0) wA0)))))

def wf_law_k23 (sp__law_told : FSpec) (sp__law_same : FSpec) (sp__law_due : FSpec) (sp__law_pick : FSpec) (sp__law_one : FSpec) (sp_chain_text : FSpec) (sp__law_text : FSpec) (sp__law_chain : FSpec) (sp__law_deck : FSpec) (spx_read_chains : FSpec) : WS :=
  (wSeq (wFor (iR1 (wAC (wC (.int 8)) wA0)) (gN 1)
  (wSeq (wPub 2 (wCall 2 sp__law_deck (wAC (wB opIxX (oE (wB opAdd (oV 0) (oE (wB opMul (oE (wLst (wAC (wC (.int 0)) wA0))) (oE (wC (.int 8))))))) (oV 1)) (wAC (wV 1) wA0))))
  (wSeq (wSet 3 (wCB opTuple (wUC (oE (wLc [6] (iR1 (wAC (wCall 2 sp__law_pick (wAC (wV 2) (wAC (wC (.int 5)) wA0))) wA0)) (gN 6) wYes (wCall 3 sp__law_chain (wAC (wV 2) (wAC (wC (.int 5)) (wAC (wC (.int 3)) wA0)))))) wA0)))
  (wSeq (wSet 4 (wLc [12] (iW (wV 3)) (gN 12) wYes (wCall 1 sp__law_text (wAC (wV 12) wA0))))
  (wSeq (wIfS (wOr (wTst (wB (opEq true) (oE (wLc [12] (iW (wV 3)) (gN 12) wYes (wCall 1 sp_chain_text (wAC (wV 12) wA0)))) (oV 4))) (wNot (wTst (wCall 2 sp__law_same (wAC (wCall 1 sp__law_told (wAC (wSM opJoin (oE (wC (.str ⟨#[10]⟩))) (oV 4)) wA0)) (wAC (wV 3) wA0))))))
  (wRet (wC (.bl false)))
  wNil)
  (wSeq (wSet 5 (wSM opJoin (oE (wC (.str ⟨#[10]⟩))) (oV 4)))
  (wFor (iR1 (wAC (wC (.int 8)) wA0)) (gN 6)
  (wSeq (wSet 7 (wCall 2 sp__law_pick (wAC (wV 2) (wAC (wB opAdd (oE (wCB opLenX (wUC (oV 5) wA0))) (oE (wC (.int 1)))) wA0))))
  (wSeq (wSet 8 (wCall 2 sp__law_one (wAC (wV 2) (wAC (wLst (wAC (wC (.str " ")) (wAC (wC (.str ",")) (wAC (wC (.str ":")) (wAC (wC (.str "0")) (wAC (wC (.str "2")) (wAC (wC (.str "6")) (wAC (wC (.str "-")) (wAC (wC (.str "s")) (wAC (wC (.str ⟨#[10]⟩)) (wAC (wC (.str "")) (wAC (wC (.str "x")) (wAC (wC (.str " from ")) wA0))))))))))))) wA0))))
  (wSeq (wSet 9 (wB opAdd (oE (wB opAdd (oE (wSlT (oV 5) pN (pS (wV 7)))) (oV 8))) (oE (wSlT (oV 5) (pS (wB opAdd (oV 7) (oE (wCall 2 sp__law_pick (wAC (wV 2) (wAC (wC (.int 2)) wA0)))))) pN))))
  (wIfS (wNot (wTst (wCall 2 sp__law_same (wAC (wCall 1 sp__law_told (wAC (wV 9) wA0)) (wAC (wCall 1 sp__law_due (wAC (wV 9) wA0)) wA0)))))
  (wRet (wC (.bl false)))
  wNil)))))))))))
  (wSeq (wFor (iW (wTup (wAC (wC .non) (wAC (wC (.int 3)) (wAC (wLst wA0) (wAC (wTup wA0) wA0)))))) (gN 10)
  (wIfS (wOr (wTst (wB (opEq true) (oE (wCall 1 sp__law_told (wAC (wV 10) wA0))) (oE (wC (.int 0))))) (wTst (wB (opEq true) (oE (wTryD 0 "law" (fun Ex2 => (wCallX 1 spx_read_chains Ex2 (wAC (wV 10) wA0))))) (oE (wC (.str "Text+"))))))
  (wRet (wC (.bl false)))
  wNil))
  (wSeq (wSet 11 (wLst (wAC (wC (.str "3 from 0: ")) (wAC (wC (.str "3 from 0:")) (wAC (wC (.str "3 from 0: hold 1,hold 1")) (wAC (wC (.str "3 from 0: hold 1, ")) (wAC (wC (.str "03 from 0")) (wAC (wC (.str "+3 from 0")) wA0))))))))
  (wSeq (wFor (iW (wB opAdd (oV 11) (oE (wLst (wAC (wB opAdd (oE (wC (.str "3 from 0: hold "))) (oE (wB opMulS (oE (wC (.str "1"))) (oE (wC (.int 360)))))) wA0))))) (gN 10)
  (wIfS (wTst (wB (opEq true) (oE (wCall 1 sp__law_told (wAC (wB opAdd (oE (wC (.str ⟨#[49, 32, 102, 114, 111, 109, 32, 49, 10]⟩))) (oV 10)) wA0))) (oE (wC (.int 2)))))
  (wRet (wC (.bl false)))
  wNil))
  (wRet (vAnd (wB (opEq false) (oE (wCall 1 sp__law_told (wAC (wC (.str ⟨#[53, 32, 102, 114, 111, 109, 32, 53, 10]⟩)) wA0))) (oE (wC (.int 2)))) (vAnd (wB (opEq false) (oE (wCall 1 sp__law_told (wAC (wC (.str "")) wA0))) (oE (wTup wA0))) (wB (opEq false) (oE (wCall 1 sp__law_told (wAC (wC (.str ⟨#[10]⟩)) wA0))) (oE (wC (.int 1)))))))))))

end VC

set_option Elab.async false
set_option linter.all false
set_option maxRecDepth 100000
set_option maxHeartbeats 4000000
/-! L01: the law k01: what a chain is, of any data. -/
namespace VC
open PySem PySem.Spec PyProof.Rows L2
/-- data whose type is known -/
def D.pl : D → Bool
  | .non => true
  | .bl _ => true
  | .int _ => true
  | .str _ => true
  | .tup _ => true
  | .lst _ => true
  | .dct _ _ => false
  | .ref _ => false
  | .fn _ => false
  | .kst _ => false
  | .opq => false
def fromB (v : D) (l h : Int) : Bool := match v with
  | .int a => decide (l ≤ a ∧ a ≤ h)
  | _ => false
def sa_is_from : FSpec := fun ds S R _ => ∃ (v : D) (l h : Int), ds = [v, .int l, .int h] ∧ v.pl = true ∧ R (.val (.bl (fromB v l h))) S
theorem va_is_from (ds S R) (h : sa_is_from ds S R (fun _ _ => False)) : wf_is_from (ENDS R) (env0 3 ds) S := by
  obtain ⟨v, l, h, rfl, hp, q⟩ := h
  cases v with
  | int a =>
    ((try conv => whnf) <;> repeat ((first | (refine Ite.mt ?_ ?_; focus (first | rfl | (simp; done) | (simp; omega))) | (refine Ite.mf ?_ ?_; focus (first | rfl | (simp; done) | (simp; omega))) | (refine And.intro ?_ ?_; focus (first | rfl | decide | (simp; done) | (simp; omega) | omega))) <;> (try conv => whnf)))
    refine Ite.intro (fun hc => ?_) (fun hc => ?_)
    · (conv => whnf)
      refine ofbl q ?_
      simp at hc; simp [hc, fromB]
    · (conv => whnf)
      refine ofbl q ?_
      simp at hc; simp [fromB]; omega
  | dct _ _ => cases hp
  | ref _ => cases hp
  | fn _ => cases hp
  | kst _ => cases hp
  | opq => cases hp
  | _ => ((try conv => whnf) <;> repeat ((first | (refine Ite.mt ?_ ?_; focus (first | rfl | (simp; done) | (simp; omega))) | (refine Ite.mf ?_ ?_; focus (first | rfl | (simp; done) | (simp; omega))) | (refine And.intro ?_ ?_; focus (first | rfl | decide | (simp; done) | (simp; omega) | omega))) <;> (try conv => whnf))); exact q
/-- is it a stage of that top -/
def stgB (t : Int) : D → Bool
  | .tup [.str k, a] => decide (k = "hold") && fromB a 1 2
  | .tup [.str k, a, b] => (decide (k = "slew") && (fromB a 0 5 && fromB b 0 5)) || (decide (k = "clip" ∨ k = "gate") && match a with
      | .int l => decide (0 ≤ l ∧ l ≤ t) && fromB b l t
      | _ => false)
  | _ => false
def sa_is_stage_of : FSpec := fun ds S R _ => ∃ (t : Int) (v : D) (n : Nat), ds = [.int t, v] ∧ datd v n = true ∧ R (.val (.bl (stgB t v))) S
theorem datd_pl {v : D} {n : Nat} (h : datd v n = true) : v.pl = true := by cases v <;> simp [datd] at h <;> rfl
theorem datd_tup {xs : List D} {n : Nat} (h : datd (.tup xs) n = true) : ∃ m, n = m + 1 ∧ xs.length ≤ 1000000 ∧ ∀ d ∈ xs, datd d m = true := by
  cases n with
  | zero => simp [datd] at h
  | succ m =>
    simp only [datd, Bool.and_eq_true, decide_eq_true_eq] at h
    refine ⟨m, rfl, h.1, fun d hd => ?_⟩
    obtain ⟨i, hi⟩ := mem_ix hd
    exact datds_get h.2 hi
theorem n_hs : ¬ (("hold" : Str) = "slew") := by decide +kernel
theorem n_hc : ¬ (("hold" : Str) = "clip") := by decide +kernel
theorem n_hg : ¬ (("hold" : Str) = "gate") := by decide +kernel
theorem n_sc : ¬ (("slew" : Str) = "clip") := by decide +kernel
theorem n_sg : ¬ (("slew" : Str) = "gate") := by decide +kernel
theorem str_in {k : Str} (h : PyData.strOk k = true) : (D.str k).cmp = true ∧ (D.tup [.str "clip", .str "gate"]).cmp = true := ⟨okd_cmp (n := 0) (by simpa [okd] using h), cl_in.2⟩
theorem any_cg {k : Str} : ([D.str "clip", .str "gate"].any fun z => z.eqv (.str k)) = decide (k = "clip" ∨ k = "gate") := by
  simp only [List.any_cons, List.any_nil, D.eqv, Bool.or_false]
  rw [Bool.eq_iff_iff]
  simp only [Bool.or_eq_true, beq_iff_eq, decide_eq_true_eq]
  exact ⟨fun h => h.imp Eq.symm Eq.symm, fun h => h.imp Eq.symm Eq.symm⟩
theorem va_is_stage_of (ds S R) (h : sa_is_stage_of ds S R (fun _ _ => False)) : wf_is_stage_of sa_is_from (ENDS R) (env0 2 ds) S := by
  obtain ⟨t, v, n, rfl, hv, q⟩ := h
  have hp := datd_pl hv
  cases v with
  | dct _ _ => cases hp
  | ref _ => cases hp
  | fn _ => cases hp
  | kst _ => cases hp
  | opq => cases hp
  | tup xs =>
    obtain ⟨m, rfl, hl, hx⟩ := datd_tup hv
    match xs with
    | [] => ((try conv => whnf) <;> repeat ((first | (refine Ite.mt ?_ ?_; focus (first | rfl | (simp; done) | (simp; omega))) | (refine Ite.mf ?_ ?_; focus (first | rfl | (simp; done) | (simp; omega))) | (refine And.intro ?_ ?_; focus (first | rfl | decide | (simp; done) | (simp; omega) | omega))) <;> (try conv => whnf))); exact q
    | [a] => ((try conv => whnf) <;> repeat ((first | (refine Ite.mt ?_ ?_; focus (first | rfl | (simp; done) | (simp; omega))) | (refine Ite.mf ?_ ?_; focus (first | rfl | (simp; done) | (simp; omega))) | (refine And.intro ?_ ?_; focus (first | rfl | decide | (simp; done) | (simp; omega) | omega))) <;> (try conv => whnf))); exact ofbl q (by cases a <;> rfl)
    | a :: b :: rest =>
      have pa := datd_pl (hx a (by simp))
      have pb := datd_pl (hx b (by simp))
      cases a with
      | dct _ _ => cases pa
      | ref _ => cases pa
      | fn _ => cases pa
      | kst _ => cases pa
      | opq => cases pa
      | str k =>
        have sk : PyData.strOk k = true := by simpa [datd] using hx (.str k) (by simp)
        match rest with
        | [] =>
          ((try conv => whnf) <;> repeat ((first | (refine Ite.mt ?_ ?_; focus (first | rfl | (simp; done) | (simp; omega))) | (refine Ite.mf ?_ ?_; focus (first | rfl | (simp; done) | (simp; omega))) | (refine And.intro ?_ ?_; focus (first | rfl | decide | (simp; done) | (simp; omega) | omega))) <;> (try conv => whnf)))
          refine Ite.intro (fun hc => ?_) (fun hc => ?_)
          · have hk : k = "hold" := by simpa using hc
            subst hk
            ((try conv => whnf) <;> repeat ((first | (refine Ite.mt ?_ ?_; focus (first | rfl | (simp; done) | (simp; omega))) | (refine Ite.mf ?_ ?_; focus (first | rfl | (simp; done) | (simp; omega))) | (refine And.intro ?_ ?_; focus (first | rfl | decide | (simp; done) | (simp; omega) | omega))) <;> (try conv => whnf)))
            refine ⟨b, 1, 2, rfl, pb, ?_⟩
            exact ofbl q (by simp [stgB, n_hs, n_hc, n_hg])
          · have hk : ¬ k = "hold" := by simpa using hc
            ((try conv => whnf) <;> repeat ((first | (refine Ite.mt ?_ ?_; focus (first | rfl | (simp; done) | (simp; omega))) | (refine Ite.mf ?_ ?_; focus (first | rfl | (simp; done) | (simp; omega))) | (refine And.intro ?_ ?_; focus (first | rfl | decide | (simp; done) | (simp; omega) | omega))) <;> (try conv => whnf)))
            exact ofbl q (by simp [stgB, hk])
        | [c] =>
          have pc := datd_pl (hx c (by simp))
          ((try conv => whnf) <;> repeat ((first | (refine Ite.mt ?_ ?_; focus (first | rfl | (simp; done) | (simp; omega))) | (refine Ite.mf ?_ ?_; focus (first | rfl | (simp; done) | (simp; omega))) | (refine And.intro ?_ ?_; focus (first | rfl | decide | (simp; done) | (simp; omega) | omega))) <;> (try conv => whnf)))
          refine Ite.intro (fun hc => ?_) (fun hc => ?_)
          · have hk : k = "hold" := by simpa using hc
            subst hk
            ((try conv => whnf) <;> repeat ((first | (refine Ite.mt ?_ ?_; focus (first | rfl | (simp; done) | (simp; omega))) | (refine Ite.mf ?_ ?_; focus (first | rfl | (simp; done) | (simp; omega))) | (refine And.intro ?_ ?_; focus (first | rfl | decide | (simp; done) | (simp; omega) | omega))) <;> (try conv => whnf)))
            exact ofbl q (by simp [stgB, n_hs, n_hc, n_hg])
          · have hk : ¬ k = "hold" := by simpa using hc
            ((try conv => whnf) <;> repeat ((first | (refine Ite.mt ?_ ?_; focus (first | rfl | (simp; done) | (simp; omega))) | (refine Ite.mf ?_ ?_; focus (first | rfl | (simp; done) | (simp; omega))) | (refine And.intro ?_ ?_; focus (first | rfl | decide | (simp; done) | (simp; omega) | omega))) <;> (try conv => whnf)))
            refine Ite.intro (fun hc => ?_) (fun hc => ?_)
            · have hs : k = "slew" := by simpa using hc
              subst hs
              ((try conv => whnf) <;> repeat ((first | (refine Ite.mt ?_ ?_; focus (first | rfl | (simp; done) | (simp; omega))) | (refine Ite.mf ?_ ?_; focus (first | rfl | (simp; done) | (simp; omega))) | (refine And.intro ?_ ?_; focus (first | rfl | decide | (simp; done) | (simp; omega) | omega))) <;> (try conv => whnf)))
              refine ⟨b, 0, 5, rfl, pb, ?_⟩
              (conv => whnf)
              refine Ite.intro (fun hb => ?_) (fun hb => ?_)
              · ((try conv => whnf) <;> repeat ((first | (refine Ite.mt ?_ ?_; focus (first | rfl | (simp; done) | (simp; omega))) | (refine Ite.mf ?_ ?_; focus (first | rfl | (simp; done) | (simp; omega))) | (refine And.intro ?_ ?_; focus (first | rfl | decide | (simp; done) | (simp; omega) | omega))) <;> (try conv => whnf)))
                refine ⟨c, 0, 5, rfl, pc, ?_⟩
                exact ofbl q (by simp [stgB, hb, n_sc, n_sg])
              · ((try conv => whnf) <;> repeat ((first | (refine Ite.mt ?_ ?_; focus (first | rfl | (simp; done) | (simp; omega))) | (refine Ite.mf ?_ ?_; focus (first | rfl | (simp; done) | (simp; omega))) | (refine And.intro ?_ ?_; focus (first | rfl | decide | (simp; done) | (simp; omega) | omega))) <;> (try conv => whnf)))
                exact ofbl q (by simp [stgB, hb, n_sc, n_sg])
            · have hs : ¬ k = "slew" := by simpa using hc
              ((try conv => whnf) <;> repeat ((first | (refine Ite.mt ?_ ?_; focus (first | rfl | (simp; done) | (simp; omega))) | (refine Ite.mf ?_ ?_; focus (first | rfl | (simp; done) | (simp; omega))) | (refine And.intro ?_ ?_; focus (first | rfl | decide | (simp; done) | (simp; omega) | omega))) <;> (try conv => whnf)))
              refine ⟨str_in sk, ?_⟩
              (conv => whnf)
              refine Ite.intro (fun hg => ?_) (fun hg => ?_)
              · have hg : decide (k = "clip" ∨ k = "gate") = true := any_cg.symm.trans hg
                ((try conv => whnf) <;> repeat ((first | (refine Ite.mt ?_ ?_; focus (first | rfl | (simp; done) | (simp; omega))) | (refine Ite.mf ?_ ?_; focus (first | rfl | (simp; done) | (simp; omega))) | (refine And.intro ?_ ?_; focus (first | rfl | decide | (simp; done) | (simp; omega) | omega))) <;> (try conv => whnf)))
                refine ⟨b, 0, t, rfl, pb, ?_⟩
                (conv => whnf)
                refine Ite.intro (fun hb => ?_) (fun hb => ?_)
                · cases b with
                  | int l =>
                    ((try conv => whnf) <;> repeat ((first | (refine Ite.mt ?_ ?_; focus (first | rfl | (simp; done) | (simp; omega))) | (refine Ite.mf ?_ ?_; focus (first | rfl | (simp; done) | (simp; omega))) | (refine And.intro ?_ ?_; focus (first | rfl | decide | (simp; done) | (simp; omega) | omega))) <;> (try conv => whnf)))
                    refine ⟨c, l, t, rfl, pc, ?_⟩
                    refine ofbl q ?_
                    simp only [stgB, hg, hb, decide_eq_false hs, Bool.false_and, Bool.false_or, Bool.true_and]
                    simp only [fromB] at hb
                    rw [hb, Bool.true_and]
                  | _ => simp [fromB] at hb
                · ((try conv => whnf) <;> repeat ((first | (refine Ite.mt ?_ ?_; focus (first | rfl | (simp; done) | (simp; omega))) | (refine Ite.mf ?_ ?_; focus (first | rfl | (simp; done) | (simp; omega))) | (refine And.intro ?_ ?_; focus (first | rfl | decide | (simp; done) | (simp; omega) | omega))) <;> (try conv => whnf)))
                  refine ofbl q ?_
                  simp only [stgB, hg, decide_eq_false hs, Bool.false_and, Bool.false_or, Bool.true_and]
                  cases b <;> simp only [fromB] at hb ⊢
                  rw [hb, Bool.false_and]
              · have hg : decide (k = "clip" ∨ k = "gate") = false := any_cg.symm.trans hg
                ((try conv => whnf) <;> repeat ((first | (refine Ite.mt ?_ ?_; focus (first | rfl | (simp; done) | (simp; omega))) | (refine Ite.mf ?_ ?_; focus (first | rfl | (simp; done) | (simp; omega))) | (refine And.intro ?_ ?_; focus (first | rfl | decide | (simp; done) | (simp; omega) | omega))) <;> (try conv => whnf)))
                exact ofbl q (by simp only [stgB, hg, decide_eq_false hs, Bool.false_and, Bool.false_or])
        | c :: d :: e =>
          ((try conv => whnf) <;> repeat ((first | (refine Ite.mt ?_ ?_; focus (first | rfl | (simp; done) | (simp; omega))) | (refine Ite.mf ?_ ?_; focus (first | rfl | (simp; done) | (simp; omega))) | (refine And.intro ?_ ?_; focus (first | rfl | decide | (simp; done) | (simp; omega) | omega))) <;> (try conv => whnf)))
          refine Ite.intro (fun hc => ?_) (fun hc => ?_)
          · have hk : k = "hold" := by simpa using hc
            subst hk
            ((try conv => whnf) <;> repeat ((first | (refine Ite.mt ?_ ?_; focus (first | rfl | (simp; done) | (simp; omega))) | (refine Ite.mf ?_ ?_; focus (first | rfl | (simp; done) | (simp; omega))) | (refine And.intro ?_ ?_; focus (first | rfl | decide | (simp; done) | (simp; omega) | omega))) <;> (try conv => whnf)))
            exact ofbl q (by simp [stgB, n_hs, n_hc, n_hg])
          · have hk : ¬ k = "hold" := by simpa using hc
            ((try conv => whnf) <;> repeat ((first | (refine Ite.mt ?_ ?_; focus (first | rfl | (simp; done) | (simp; omega))) | (refine Ite.mf ?_ ?_; focus (first | rfl | (simp; done) | (simp; omega))) | (refine And.intro ?_ ?_; focus (first | rfl | decide | (simp; done) | (simp; omega) | omega))) <;> (try conv => whnf)))
            exact ofbl q (by simp [stgB, n_hs, n_hc, n_hg])
      | _ => ((try conv => whnf) <;> repeat ((first | (refine Ite.mt ?_ ?_; focus (first | rfl | (simp; done) | (simp; omega))) | (refine Ite.mf ?_ ?_; focus (first | rfl | (simp; done) | (simp; omega))) | (refine And.intro ?_ ?_; focus (first | rfl | decide | (simp; done) | (simp; omega) | omega))) <;> (try conv => whnf))); exact ofbl q (by cases rest with
          | nil => rfl
          | cons c r => cases r <;> rfl)
  | _ => ((try conv => whnf) <;> repeat ((first | (refine Ite.mt ?_ ?_; focus (first | rfl | (simp; done) | (simp; omega))) | (refine Ite.mf ?_ ?_; focus (first | rfl | (simp; done) | (simp; omega))) | (refine And.intro ?_ ?_; focus (first | rfl | decide | (simp; done) | (simp; omega) | omega))) <;> (try conv => whnf))); exact q
theorem fromB_int {v : D} {l h : Int} (e : fromB v l h = true) : ∃ a, v = .int a ∧ l ≤ a ∧ a ≤ h := by
  cases v <;> simp [fromB] at e
  exact ⟨_, rfl, e⟩
theorem stgB_of {t : Int} {v : D} (h : stgB t v = true) : ∃ s : Stg, v = s.d ∧ s.Ok t := by
  unfold stgB at h
  split at h
  · rename_i k a
    simp only [Bool.and_eq_true, decide_eq_true_eq] at h
    obtain ⟨w, rfl, h1, h2⟩ := fromB_int h.2
    rw [h.1]
    exact ⟨.hold w, rfl, h1, h2⟩
  · rename_i k a b
    simp only [Bool.or_eq_true, Bool.and_eq_true, decide_eq_true_eq] at h
    rcases h with ⟨rfl, h1, h2⟩ | ⟨hk, h2⟩
    · obtain ⟨x, rfl, a1, a2⟩ := fromB_int h1
      obtain ⟨y, rfl, b1, b2⟩ := fromB_int h2
      exact ⟨.slew x y, rfl, a1, a2, b1, b2⟩
    · split at h2
      · rename_i l
        simp only [Bool.and_eq_true, decide_eq_true_eq] at h2
        obtain ⟨y, rfl, b1, b2⟩ := fromB_int h2.2
        rcases hk with rfl | rfl
        · exact ⟨.clip l y, rfl, h2.1.1, h2.1.2, b1, b2⟩
        · exact ⟨.gate l y, rfl, h2.1.1, h2.1.2, b1, b2⟩
      · cases h2
  · cases h
theorem stgs_of {t : Int} : ∀ {ps : List D}, ps.all (stgB t) = true → ∃ ss : List Stg, ps = ss.map Stg.d ∧ ∀ s ∈ ss, s.Ok t
  | [], _ => ⟨[], rfl, fun _ h => by simp at h⟩
  | p :: ps, h => by
    simp only [List.all_cons, Bool.and_eq_true] at h
    obtain ⟨s, rfl, h1⟩ := stgB_of h.1
    obtain ⟨ss, rfl, h2⟩ := stgs_of h.2
    refine ⟨s :: ss, rfl, fun x hx => ?_⟩
    rcases List.mem_cons.mp hx with rfl | hx
    · exact h1
    · exact h2 x hx
/-- is it no clip -/
def ncB : D → Bool
  | .tup (.str k :: _) => !decide (k = "clip")
  | _ => true
def chnB : D → Bool
  | .tup [.int t, b, .tup ps] => decide (1 ≤ t ∧ t ≤ 5) && (fromB b 0 t && (decide (ps.length ≤ 3) && (ps.all (stgB t) && decide ((ps.filter ncB).length ≤ 2))))
  | _ => false
theorem nc_keep (s : Stg) : ncB s.d = s.keep := by cases s <;> simp [ncB, Stg.keep] <;> decide +kernel
theorem nc_keeps (ss : List Stg) : ((ss.map Stg.d).filter ncB).length = keeps ss := by
  unfold keeps
  induction ss with
  | nil => rfl
  | cons s ss ih =>
    rw [List.map_cons, List.filter_cons, List.filter_cons, nc_keep]
    cases s.keep <;> simp [ih]
theorem lcW_id {vs : List Nat} {G : WG} {Wt : WT} {We : WE} {Q : List D → VEnv → Sto → Prop} (f : D → Option D) (e0 : VEnv) (s0 : Sto) {items : List D}
    (stp : ∀ a ∈ items, ∀ (K : List D → VEnv → Sto → Prop) acc, K (acc ++ (f a).toList) e0 s0 → G a e0 s0 fun e1 s1 => Wt e1 s1 fun b e2 s2 => Ite b (We e2 s2 fun t e3 s3 => K (acc ++ [t.d]) (wpE e3 vs) s3) (K acc (wpE e2 vs) s2))
    (q : Q (items.filterMap f) e0 s0) : lcW vs G Wt We items [] e0 s0 Q := by
  have := lcW_pure (α := D) (vs := vs) (G := G) (Wt := Wt) (We := We) (Q := Q) id f e0 s0 (items := items) stp q
  rwa [List.map_id] at this
theorem fm_bls (f : D → Bool) : ∀ l : List D, blsD (l.filterMap fun p => some (.bl (f p))) = some (l.map f)
  | l => by
    have e : (l.filterMap fun p => some (D.bl (f p))) = (l.map f).map D.bl := by
      induction l with
      | nil => rfl
      | cons a l ih => rw [List.filterMap_cons, ih]; rfl
    rw [e, blsD_map]
def sa_is_chain_of : FSpec := fun ds S R _ => ∃ (v : D) (n : Nat), ds = [v] ∧ datd v n = true ∧ R (.val (.bl (chnB v))) S
theorem va_is_chain_of (ds S R) (h : sa_is_chain_of ds S R (fun _ _ => False)) : wf_is_chain_of sa_is_stage_of sp_keeping sa_is_from (ENDS R) (env0 5 ds) S := by
  obtain ⟨v, n, rfl, hv, q⟩ := h
  have hp := datd_pl hv
  cases v with
  | dct _ _ => cases hp
  | ref _ => cases hp
  | fn _ => cases hp
  | kst _ => cases hp
  | opq => cases hp
  | tup xs =>
    obtain ⟨m, rfl, hl, hx⟩ := datd_tup hv
    match xs with
    | [] => ((try conv => whnf) <;> repeat ((first | (refine Ite.mt ?_ ?_; focus (first | rfl | (simp; done) | (simp; omega))) | (refine Ite.mf ?_ ?_; focus (first | rfl | (simp; done) | (simp; omega))) | (refine And.intro ?_ ?_; focus (first | rfl | decide | (simp; done) | (simp; omega) | omega))) <;> (try conv => whnf))); exact q
    | [a] => ((try conv => whnf) <;> repeat ((first | (refine Ite.mt ?_ ?_; focus (first | rfl | (simp; done) | (simp; omega))) | (refine Ite.mf ?_ ?_; focus (first | rfl | (simp; done) | (simp; omega))) | (refine And.intro ?_ ?_; focus (first | rfl | decide | (simp; done) | (simp; omega) | omega))) <;> (try conv => whnf))); exact ofbl q (by cases a <;> rfl)
    | [a, b] => ((try conv => whnf) <;> repeat ((first | (refine Ite.mt ?_ ?_; focus (first | rfl | (simp; done) | (simp; omega))) | (refine Ite.mf ?_ ?_; focus (first | rfl | (simp; done) | (simp; omega))) | (refine And.intro ?_ ?_; focus (first | rfl | decide | (simp; done) | (simp; omega) | omega))) <;> (try conv => whnf))); exact ofbl q (by cases a <;> rfl)
    | a :: b :: c :: d :: r => ((try conv => whnf) <;> repeat ((first | (refine Ite.mt ?_ ?_; focus (first | rfl | (simp; done) | (simp; omega))) | (refine Ite.mf ?_ ?_; focus (first | rfl | (simp; done) | (simp; omega))) | (refine And.intro ?_ ?_; focus (first | rfl | decide | (simp; done) | (simp; omega) | omega))) <;> (try conv => whnf))); exact ofbl q (by cases a <;> cases c <;> rfl)
    | [a, b, c] =>
      have pa := datd_pl (hx a (by simp))
      have pb := datd_pl (hx b (by simp))
      have pc := datd_pl (hx c (by simp))
      ((try conv => whnf) <;> repeat ((first | (refine Ite.mt ?_ ?_; focus (first | rfl | (simp; done) | (simp; omega))) | (refine Ite.mf ?_ ?_; focus (first | rfl | (simp; done) | (simp; omega))) | (refine And.intro ?_ ?_; focus (first | rfl | decide | (simp; done) | (simp; omega) | omega))) <;> (try conv => whnf)))
      refine ⟨a, 1, 5, rfl, pa, ?_⟩
      (conv => whnf)
      refine Ite.intro (fun ha => ?_) (fun ha => ?_)
      · ((try conv => whnf) <;> repeat ((first | (refine Ite.mt ?_ ?_; focus (first | rfl | (simp; done) | (simp; omega))) | (refine Ite.mf ?_ ?_; focus (first | rfl | (simp; done) | (simp; omega))) | (refine And.intro ?_ ?_; focus (first | rfl | decide | (simp; done) | (simp; omega) | omega))) <;> (try conv => whnf)))
        refine ofbl q ?_
        have ha : fromB a 1 5 = false := by simpa using ha
        cases a <;> try rfl
        cases c <;> try rfl
        simp only [fromB] at ha
        simp only [chnB, ha, Bool.false_and]
      · have ha : fromB a 1 5 = true := by simpa using ha
        obtain ⟨t, rfl, t1, t5⟩ := fromB_int ha
        ((try conv => whnf) <;> repeat ((first | (refine Ite.mt ?_ ?_; focus (first | rfl | (simp; done) | (simp; omega))) | (refine Ite.mf ?_ ?_; focus (first | rfl | (simp; done) | (simp; omega))) | (refine And.intro ?_ ?_; focus (first | rfl | decide | (simp; done) | (simp; omega) | omega))) <;> (try conv => whnf)))
        refine ⟨b, 0, t, rfl, pb, ?_⟩
        (conv => whnf)
        refine Ite.intro (fun hb => ?_) (fun hb => ?_)
        · have hb : fromB b 0 t = false := by simpa using hb
          ((try conv => whnf) <;> repeat ((first | (refine Ite.mt ?_ ?_; focus (first | rfl | (simp; done) | (simp; omega))) | (refine Ite.mf ?_ ?_; focus (first | rfl | (simp; done) | (simp; omega))) | (refine And.intro ?_ ?_; focus (first | rfl | decide | (simp; done) | (simp; omega) | omega))) <;> (try conv => whnf)))
          refine ofbl q ?_
          cases c <;> try rfl
          simp only [chnB, hb, Bool.false_and, Bool.and_false]
        · have hb : fromB b 0 t = true := by simpa using hb
          cases c with
          | dct _ _ => cases pc
          | ref _ => cases pc
          | fn _ => cases pc
          | kst _ => cases pc
          | opq => cases pc
          | tup ps =>
            obtain ⟨m', rfl, hl', hx'⟩ := datd_tup (hx (.tup ps) (by simp))
            ((try conv => whnf) <;> repeat ((first | (refine Ite.mt ?_ ?_; focus (first | rfl | (simp; done) | (simp; omega))) | (refine Ite.mf ?_ ?_; focus (first | rfl | (simp; done) | (simp; omega))) | (refine And.intro ?_ ?_; focus (first | rfl | decide | (simp; done) | (simp; omega) | omega))) <;> (try conv => whnf)))
            refine Ite.intro (fun hc => ?_) (fun hc => ?_)
            · ((try conv => whnf) <;> repeat ((first | (refine Ite.mt ?_ ?_; focus (first | rfl | (simp; done) | (simp; omega))) | (refine Ite.mf ?_ ?_; focus (first | rfl | (simp; done) | (simp; omega))) | (refine And.intro ?_ ?_; focus (first | rfl | decide | (simp; done) | (simp; omega) | omega))) <;> (try conv => whnf)))
              refine ofbl q ?_
              have : ¬ ps.length ≤ 3 := by simp at hc; omega
              simp only [chnB, decide_eq_false this, Bool.false_and, Bool.and_false]
            · have h3 : ps.length ≤ 3 := by simp at hc; omega
              ((try conv => whnf) <;> repeat ((first | (refine Ite.mt ?_ ?_; focus (first | rfl | (simp; done) | (simp; omega))) | (refine Ite.mf ?_ ?_; focus (first | rfl | (simp; done) | (simp; omega))) | (refine And.intro ?_ ?_; focus (first | rfl | decide | (simp; done) | (simp; omega) | omega))) <;> (try conv => whnf)))
              refine ⟨⟨rfl, by omega⟩, ?_⟩
              refine lcW_id (fun p => some (.bl (stgB t p))) _ _ (fun p hp K acc hK => ?_) ?_
              · ((try conv => whnf) <;> repeat ((first | (refine Ite.mt ?_ ?_; focus (first | rfl | (simp; done) | (simp; omega))) | (refine Ite.mf ?_ ?_; focus (first | rfl | (simp; done) | (simp; omega))) | (refine And.intro ?_ ?_; focus (first | rfl | decide | (simp; done) | (simp; omega) | omega))) <;> (try conv => whnf)))
                exact ⟨t, p, _, rfl, hx' p hp, hK⟩
              · ((try conv => whnf) <;> repeat ((first | (refine Ite.mt ?_ ?_; focus (first | rfl | (simp; done) | (simp; omega))) | (refine Ite.mf ?_ ?_; focus (first | rfl | (simp; done) | (simp; omega))) | (refine And.intro ?_ ?_; focus (first | rfl | decide | (simp; done) | (simp; omega) | omega))) <;> (try conv => whnf)))
                refine ⟨_, fm_bls _ _, ?_⟩
                (conv => whnf)
                refine Ite.intro (fun hA => ?_) (fun hA => ?_)
                · have hA : ps.all (stgB t) = true := by rw [List.all_map] at hA; exact hA
                  obtain ⟨ss, rfl, ok⟩ := stgs_of hA
                  ((try conv => whnf) <;> repeat ((first | (refine Ite.mt ?_ ?_; focus (first | rfl | (simp; done) | (simp; omega))) | (refine Ite.mf ?_ ?_; focus (first | rfl | (simp; done) | (simp; omega))) | (refine And.intro ?_ ?_; focus (first | rfl | decide | (simp; done) | (simp; omega) | omega))) <;> (try conv => whnf)))
                  refine ⟨ss, rfl, by simp at h3; omega, ?_⟩
                  refine ofbl q ?_
                  simp only [chnB, decide_eq_true h3, decide_eq_true (And.intro t1 t5), hb, hA, Bool.true_and, nc_keeps]
                  rw [Bool.eq_iff_iff]; simp; omega
                · have hA : ps.all (stgB t) = false := by rw [List.all_map] at hA; exact hA
                  ((try conv => whnf) <;> repeat ((first | (refine Ite.mt ?_ ?_; focus (first | rfl | (simp; done) | (simp; omega))) | (refine Ite.mf ?_ ?_; focus (first | rfl | (simp; done) | (simp; omega))) | (refine And.intro ?_ ?_; focus (first | rfl | decide | (simp; done) | (simp; omega) | omega))) <;> (try conv => whnf)))
                  refine ofbl q ?_
                  simp only [chnB, hA, Bool.false_and, Bool.and_false]
          | _ => ((try conv => whnf) <;> repeat ((first | (refine Ite.mt ?_ ?_; focus (first | rfl | (simp; done) | (simp; omega))) | (refine Ite.mf ?_ ?_; focus (first | rfl | (simp; done) | (simp; omega))) | (refine And.intro ?_ ?_; focus (first | rfl | decide | (simp; done) | (simp; omega) | omega))) <;> (try conv => whnf))); exact q
  | _ => ((try conv => whnf) <;> repeat ((first | (refine Ite.mt ?_ ?_; focus (first | rfl | (simp; done) | (simp; omega))) | (refine Ite.mf ?_ ?_; focus (first | rfl | (simp; done) | (simp; omega))) | (refine And.intro ?_ ?_; focus (first | rfl | decide | (simp; done) | (simp; omega) | omega))) <;> (try conv => whnf))); exact q
def sa_is_chain : FSpec := fun ds S R _ => ∃ (v : D) (n : Nat), ds = [v] ∧ datd v n = true ∧ R (.val (.bl (chnB v))) S
end VC

set_option Elab.async false
set_option linter.all false
set_option maxRecDepth 100000
set_option maxHeartbeats 4000000
/-! EB: plain: a joined text split again; the first mark of a text. -/
namespace VC
open PySem PySem.StrLaws PySem.Builtin PySem.Builtin.Str
abbrev cs (x : Str) : List Nat := x.cps.toList
theorem cs_len (x : Str) : (cs x).length = x.length := by simp [cs, Str.length]
theorem cs_app (a b : Str) : cs (a ++ b) = cs a ++ cs b := by simp [cs, Str.cps_append]
theorem cs_ext {a b : Str} (h : cs a = cs b) : a = b := Str.ext' (by rw [← Array.toList_inj]; exact h)
theorem at_iff {x y : Str} {n i : Nat} : At x y n i ↔ i + y.length ≤ n ∧ ((cs x).drop i).take y.length = cs y := by
  unfold At
  rw [subAt_eq, beq_iff_eq]
theorem at_head {x y : Str} {c : Nat} {t : List Nat} (hy : cs y = c :: t) {n i : Nat} (h : At x y n i) : (cs x)[i]? = some c := by
  obtain ⟨_, h2⟩ := at_iff.mp h
  have l1 : y.length = t.length + 1 := by rw [← cs_len, hy]; rfl
  rw [hy, l1] at h2
  have e : (((cs x).drop i).take (t.length + 1))[0]? = some c := by rw [h2]; rfl
  rw [List.getElem?_take_of_lt (by omega), List.getElem?_drop, Nat.add_zero] at e
  exact e
theorem sub_of_drop {x : Str} {a p : Nat} {q : List Nat} {r : List Nat} (h : (cs x).drop a = q ++ r) (hp : p = a + q.length) : cs (strSub x a p) = q := by
  show (strSub x a p).cps.toList = q
  rw [strSub_toList]
  show ((cs x).drop a).take (p - a) = q
  rw [h, hp, Nat.add_sub_cancel_left, List.take_left' rfl]
theorem parts_join {x y : Str} {c : Nat} {t : List Nat} (hy : cs y = c :: t) : ∀ (qs : List Str) (a : Nat) (cuts : List Nat) (f : Nat), qs ≠ [] → (∀ q ∈ qs, c ∉ cs q) → a ≤ x.length → (cs x).drop a = cs (Str.join y qs) → ChainG x y x.length a cuts f → (∀ k, f ≤ k → ¬ At x y x.length k) → partsFrom x y.length a cuts = qs
  | [], _, _, _, h, _, _, _, _, _ => absurd rfl h
  | [q], a, cuts, f, _, hq, ha, hd, hc, hf => by
    have hd : (cs x).drop a = cs q := hd
    cases cuts with
    | nil =>
      show [strSub x a x.length] = [q]
      congr 1
      refine cs_ext (sub_of_drop (r := []) (by rw [List.append_nil]; exact hd) ?_)
      have : ((cs x).drop a).length = (cs q).length := by rw [hd]
      rw [List.length_drop, cs_len] at this
      omega
    | cons i cuts =>
      obtain ⟨h1, h2, _⟩ := hc
      have e := at_head hy h2
      obtain ⟨j, rfl⟩ := Nat.le.dest h1
      have e2 : ((cs x).drop a)[j]? = some c := by rw [List.getElem?_drop]; exact e
      rw [hd] at e2
      exact absurd (List.mem_of_getElem? e2) (hq q (List.mem_cons_self ..))
  | q :: q2 :: r, a, cuts, f, _, hq, ha, hd, hc, hf => by
    have hd : (cs x).drop a = cs (q ++ y ++ Str.join y (q2 :: r)) := hd
    rw [cs_app, cs_app, List.append_assoc] at hd
    have hlen : x.length - a = (cs q).length + ((cs y).length + (cs (Str.join y (q2 :: r))).length) := by
      have := congrArg List.length hd
      rw [List.length_drop, cs_len, List.length_append, List.length_append] at this
      exact this
    have hA : At x y x.length (a + (cs q).length) := by
      refine at_iff.mpr ⟨by rw [← cs_len y]; omega, ?_⟩
      rw [← List.drop_drop, hd, List.drop_left' rfl, ← cs_len y, List.take_left' rfl]
    have next : (cs x).drop (a + (cs q).length + y.length) = cs (Str.join y (q2 :: r)) := by
      rw [← List.drop_drop, ← List.drop_drop, hd, List.drop_left' rfl, ← cs_len y, List.drop_left' rfl]
    cases cuts with
    | nil =>
      have e : f = a := hc
      exact absurd hA (hf _ (by omega))
    | cons i cuts =>
      obtain ⟨h1, h2, h3, h4⟩ := hc
      have hi : i = a + (cs q).length := by
        rcases Nat.lt_trichotomy i (a + (cs q).length) with h | h | h
        · exfalso
          have e := at_head hy h2
          obtain ⟨j, rfl⟩ := Nat.le.dest h1
          have e2 : ((cs x).drop a)[j]? = some c := by rw [List.getElem?_drop]; exact e
          rw [hd, List.getElem?_append_left (by omega)] at e2
          exact absurd (List.mem_of_getElem? e2) (hq q (List.mem_cons_self ..))
        · exact h
        · exact absurd hA (h3 _ (by omega) h)
      subst hi
      show strSub x a (a + (cs q).length) :: partsFrom x y.length (a + (cs q).length + y.length) cuts = q :: q2 :: r
      rw [parts_join hy (q2 :: r) _ cuts f (by simp) (fun z hz => hq z (List.mem_cons_of_mem _ hz)) (by rw [← cs_len y]; omega) next h4 hf]
      congr 1
      exact cs_ext (sub_of_drop hd rfl)
/-- a joined text, split again -/
theorem split_join {y : Str} {c : Nat} {t : List Nat} (hy : cs y = c :: t) (hk : strKind y = 1) {qs : List Str} (h0 : qs ≠ []) (hq : ∀ q ∈ qs, c ∉ cs q) : Txt.split (Str.join y qs) y = qs := by
  have hw : 1 ≤ y.length := by rw [← cs_len, hy]; simp
  obtain ⟨f, hc, hf⟩ := occ_tight (Str.join y qs) y hw
  have key := parts_join hy qs 0 _ f h0 hq (Nat.zero_le _) (by rw [List.drop_zero]) hc hf
  have kx : ∀ x : Str, decide (strKind x < strKind y) = false := fun x => by
    rw [hk]
    refine decide_eq_false ?_
    unfold Builtin.Str.strKind
    split <;> (try split) <;> omega
  have e1 : ¬ At (Str.join y qs) y (Str.join y qs).length 0 → True := fun _ => trivial
  unfold Txt.split
  rw [kx, Bool.or_false]
  by_cases hl : (Str.join y qs).length < y.length
  · rw [if_pos (decide_eq_true hl)]
    match qs, h0, hl with
    | [q], _, _ => rfl
    | q :: q2 :: r, _, hl =>
      exfalso
      have : (q ++ y ++ Str.join y (q2 :: r)).length < y.length := hl
      rw [Str.length_append, Str.length_append] at this
      omega
  · rw [if_neg (by rw [decide_eq_false hl]; exact fun z => nomatch z)]
    by_cases he : (occurrences (Str.join y qs) y 0 (Str.join y qs).length ((Str.join y qs).length + 1)).isEmpty = true
    · rw [if_pos he]
      rw [List.isEmpty_iff.mp he] at key
      have : [strSub (Str.join y qs) 0 (Str.join y qs).length] = qs := key
      rw [sub_whole] at this
      exact this
    · rw [if_neg he, partsBetween_eq]
      exact key
/-- a text cut at its first mark -/
theorem part_cases (x y : Str) : (Txt.partition x y = (x, Str.empty, Str.empty) ∧ ∀ i, ¬ At x y x.length i) ∨ ∃ h r, Txt.partition x y = (h, y, r) ∧ x = h ++ y ++ r ∧ ∀ k, k < h.length → ¬ At x y x.length k := by
  rcases occ_head x y 1 (Nat.le_refl 1) with ⟨h1, h2⟩ | ⟨i, l, h1, h2, h3⟩
  · refine .inl ⟨?_, h2⟩
    unfold Txt.partition
    rw [h1]
  · obtain ⟨a1, a2⟩ := at_iff.mp h2
    refine .inr ⟨strSub x 0 i, strSub x (i + y.length) x.length, ?_, ?_, ?_⟩
    · unfold Txt.partition
      rw [h1]
    · refine cs_ext ?_
      rw [cs_app, cs_app]
      show cs x = ((strSub x 0 i).cps.toList ++ cs y) ++ (strSub x (i + y.length) x.length).cps.toList
      rw [strSub_toList, strSub_toList, List.drop_zero, Nat.sub_zero, ← a2]
      show cs x = ((cs x).take i ++ ((cs x).drop i).take y.length) ++ ((cs x).drop (i + y.length)).take (x.length - (i + y.length))
      rw [List.take_of_length_le (l := (cs x).drop (i + y.length)) (by rw [List.length_drop, cs_len]; exact Nat.le_refl _), ← List.drop_drop, List.append_assoc, List.take_append_drop, List.take_append_drop]
    · intro k hk
      refine h3 k ?_
      rw [← cs_len] at hk
      have e : (cs (strSub x 0 i)).length ≤ i := by
        show (strSub x 0 i).cps.toList.length ≤ i
        rw [strSub_toList, List.length_take]
        omega
      omega
/-- .. the mark being where no sign of it stands before -/
theorem part_at {h y r : Str} {c : Nat} {t : List Nat} (hy : cs y = c :: t) (hc : c ∉ cs h) : Txt.partition (h ++ y ++ r) y = (h, y, r) := by
  have hA : At (h ++ y ++ r) y (h ++ y ++ r).length h.length := by
    refine at_iff.mpr ⟨by rw [Str.length_append, Str.length_append]; omega, ?_⟩
    rw [cs_app, cs_app, List.append_assoc, ← cs_len h, List.drop_left' rfl, ← cs_len y, List.take_left' rfl]
  rcases part_cases (h ++ y ++ r) y with ⟨_, h2⟩ | ⟨h', r', e, ex, hn⟩
  · exact absurd hA (h2 _)
  · have hl : h'.length = h.length := by
      rcases Nat.lt_trichotomy h'.length h.length with z | z | z
      · exfalso
        have hA' : At (h ++ y ++ r) y (h ++ y ++ r).length h'.length := by
          rw [ex]
          refine at_iff.mpr ⟨by rw [Str.length_append, Str.length_append]; omega, ?_⟩
          rw [cs_app, cs_app, List.append_assoc, ← cs_len h', List.drop_left' rfl, ← cs_len y, List.take_left' rfl]
        have e2 := at_head hy hA'
        rw [cs_app, cs_app, List.append_assoc, List.getElem?_append_left (by rw [cs_len]; exact z)] at e2
        exact hc (List.mem_of_getElem? e2)
      · exact z
      · exact absurd hA (hn _ z)
    have ex2 := congrArg cs ex
    rw [cs_app, cs_app, cs_app, cs_app, List.append_assoc, List.append_assoc] at ex2
    obtain ⟨e3, e4⟩ := List.append_inj ex2 (by rw [cs_len, cs_len]; exact hl.symm)
    obtain ⟨_, e5⟩ := List.append_inj e4 rfl
    rw [e, cs_ext e3, cs_ext e5]
theorem starts_iff (x y : Str) : Txt.startswith x y = true ↔ ∃ r, x = y ++ r := by
  unfold Txt.startswith
  rw [Bool.and_eq_true, decide_eq_true_iff, subAt_eq, beq_iff_eq, Nat.zero_add, List.drop_zero]
  constructor
  · rintro ⟨h1, h2⟩
    refine ⟨⟨((cs x).drop y.length).toArray⟩, cs_ext ?_⟩
    rw [cs_app]
    show cs x = cs y ++ (cs x).drop y.length
    rw [show cs y = (cs x).take y.length from h2.symm, List.take_append_drop]
  · rintro ⟨r, rfl⟩
    refine ⟨by rw [Str.length_append]; omega, ?_⟩
    show (cs (y ++ r)).take y.length = cs y
    rw [cs_app, ← cs_len y, List.take_left' rfl]
end VC

set_option Elab.async false
set_option linter.all false
set_option maxRecDepth 100000
set_option maxHeartbeats 4000000
/-! EC: plain: what the written lines say. -/
namespace VC
open PySem PySem.Spec PyProof.Rows L2
abbrev spS : Str := " "
abbrev cmS : Str := ", "
abbrev clS : Str := ": "
abbrev nlS : Str := ⟨#[10]⟩
def digS (i : Int) : Str := ((toString i : String) : Str)
theorem dig_cs {i : Int} (h0 : 0 ≤ i) (h9 : i ≤ 9) : cs (digS i) = [48 + i.toNat] := by
  have : i = 0 ∨ i = 1 ∨ i = 2 ∨ i = 3 ∨ i = 4 ∨ i = 5 ∨ i = 6 ∨ i = 7 ∨ i = 8 ∨ i = 9 := by omega
  rcases this with rfl | rfl | rfl | rfl | rfl | rfl | rfl | rfl | rfl | rfl <;> decide +kernel
/-- what number_in tells -/
def figD (w : Str) : D := match cs w with
  | [c] => if 48 ≤ c ∧ c ≤ 57 then .int ((c : Int) - 48) else .non
  | _ => .non
theorem num_dig {i : Int} (h0 : 0 ≤ i) (h9 : i ≤ 9) : figD (digS i) = .int i := by
  unfold figD
  rw [dig_cs h0 h9]
  show (if 48 ≤ 48 + i.toNat ∧ 48 + i.toNat ≤ 57 then D.int (((48 + i.toNat : Nat) : Int) - 48) else .non) = _
  rw [if_pos (by omega)]
  congr 1
  omega
theorem num_inv {w : Str} {i : Int} (h : figD w = .int i) : 0 ≤ i ∧ i ≤ 9 ∧ w = digS i := by
  unfold figD at h
  split at h
  · rename_i c e
    split at h
    · rename_i hc
      have h : (c : Int) - 48 = i := by injection h
      refine ⟨by omega, by omega, cs_ext ?_⟩
      rw [dig_cs (by omega) (by omega), e]
      congr 1
      omega
    · cases h
  · cases h
/-- what stage_in tells -/
def stageD (w : Str) : D := match Txt.split w spS with
  | a :: l => .tup (.str a :: l.map figD)
  | [] => .tup []
def stgX : Stg → Str
  | .slew u d => Str.join spS ["slew", digS u, digS d]
  | .clip l h => Str.join spS ["clip", digS l, digS h]
  | .gate l h => Str.join spS ["gate", digS l, digS h]
  | .hold w => Str.join spS ["hold", digS w]
theorem sp_cs : cs spS = 32 :: [] := by decide +kernel
theorem cm_cs : cs cmS = 44 :: [32] := by decide +kernel
theorem cl_cs : cs clS = 58 :: [32] := by decide +kernel
theorem nl_cs : cs nlS = 10 :: [] := by decide +kernel
theorem k_sp : Builtin.Str.strKind spS = 1 := by decide +kernel
theorem k_cm : Builtin.Str.strKind cmS = 1 := by decide +kernel
theorem k_nl : Builtin.Str.strKind nlS = 1 := by decide +kernel
/-- no sign of that number stands in the text -/
def NoC (c : Nat) (x : Str) : Prop := c ∉ cs x
theorem dig_no {c : Nat} {i : Int} (h0 : 0 ≤ i) (h9 : i ≤ 9) (hc : c < 48 ∨ 57 < c) : c ∉ cs (digS i) := by
  rw [dig_cs h0 h9, List.mem_singleton]; omega
theorem split_sp {qs : List Str} (h0 : qs ≠ []) (hq : ∀ q ∈ qs, 32 ∉ cs q) : Txt.split (Str.join spS qs) spS = qs := split_join sp_cs k_sp h0 hq
theorem stage_stgX {t : Int} {s : Stg} (t5 : t ≤ 5) (h : s.Ok t) : stageD (stgX s) = s.d := by
  have three : ∀ (k : Str) (a b : Int), 32 ∉ cs k → 0 ≤ a → a ≤ 9 → 0 ≤ b → b ≤ 9 → stageD (Str.join spS [k, digS a, digS b]) = .tup [.str k, .int a, .int b] := fun k a b hk a0 a9 b0 b9 => by
    unfold stageD
    rw [split_sp (by simp) (fun q hq => by
      simp only [List.mem_cons, List.not_mem_nil, or_false] at hq
      rcases hq with rfl | rfl | rfl
      · exact hk
      · exact dig_no a0 a9 (by omega)
      · exact dig_no b0 b9 (by omega))]
    show D.tup [.str k, figD (digS a), figD (digS b)] = _
    rw [num_dig a0 a9, num_dig b0 b9]
  cases s with
  | slew u d => obtain ⟨h1, h2, h3, h4⟩ := h; exact three "slew" u d (by decide +kernel) h1 (by omega) h3 (by omega)
  | clip l h' => obtain ⟨h1, h2, h3, h4⟩ := h; exact three "clip" l h' (by decide +kernel) h1 (by omega) (by omega) (by omega)
  | gate l h' => obtain ⟨h1, h2, h3, h4⟩ := h; exact three "gate" l h' (by decide +kernel) h1 (by omega) (by omega) (by omega)
  | hold w =>
    obtain ⟨h1, h2⟩ := h
    show stageD (Str.join spS ["hold", digS w]) = _
    unfold stageD
    rw [split_sp (by simp) (fun q hq => by
      simp only [List.mem_cons, List.not_mem_nil, or_false] at hq
      rcases hq with rfl | rfl
      · decide +kernel
      · exact dig_no (by omega) (by omega) (by omega))]
    show D.tup [.str "hold", figD (digS w)] = _
    rw [num_dig (by omega) (by omega)]
def tlen : D → Nat
  | .tup l => l.length
  | _ => 0
/-- a good stage is written so and no other way -/
theorem stage_inv {w : Str} {s : Stg} (h : stageD w = s.d) : w = stgX s := by
  have hj : Str.join spS (Txt.split w spS) = w := StrLaws.join_split w spS
  unfold stageD at h
  have three : ∀ (k : Str) (a b : Int), (match Txt.split w spS with
      | a :: l => D.tup (.str a :: l.map figD)
      | [] => .tup []) = .tup [.str k, .int a, .int b] → w = Str.join spS [k, digS a, digS b] := fun k a b h => by
    rw [← hj]
    generalize Txt.split w spS = l at *
    match l, h with
    | [x, y, z], h =>
      have h : D.tup [.str x, figD y, figD z] = .tup [.str k, .int a, .int b] := h
      injection h with h
      injection h with h1 h
      injection h with h2 h
      injection h with h3 h
      injection h1 with h1
      rw [h1, (num_inv h2).2.2, (num_inv h3).2.2]
    | [], h => cases h
    | [x], h => exact absurd (congrArg tlen h) (by simp [tlen])
    | [x, y], h => exact absurd (congrArg tlen h) (by simp [tlen])
    | x :: y :: z :: u :: r, h => exact absurd (congrArg tlen h) (by simp [tlen])
  cases s with
  | slew u d => exact three _ _ _ h
  | clip l h' => exact three _ _ _ h
  | gate l h' => exact three _ _ _ h
  | hold a =>
    show w = Str.join spS ["hold", digS a]
    rw [← hj]
    generalize Txt.split w spS = l at *
    match l, h with
    | [x, y], h =>
      have h : D.tup [.str x, figD y] = .tup [.str "hold", .int a] := h
      injection h with h
      injection h with h1 h
      injection h with h2 h
      injection h1 with h1
      rw [h1, (num_inv h2).2.2]
    | [], h => cases h
    | [x], h => exact absurd (congrArg tlen h) (by simp [tlen, Stg.d])
    | x :: y :: z :: r, h => exact absurd (congrArg tlen h) (by simp [tlen, Stg.d])
/-- the head of a line -/
def hdX (t a : Int) : Str := Str.join spS [digS t, "from", digS a]
theorem hd_split {t a : Int} (t0 : 0 ≤ t) (t9 : t ≤ 9) (a0 : 0 ≤ a) (a9 : a ≤ 9) : Txt.split (hdX t a) spS = [digS t, "from", digS a] :=
  split_sp (by simp) fun q hq => by
    simp only [List.mem_cons, List.not_mem_nil, or_false] at hq
    rcases hq with rfl | rfl | rfl
    · exact dig_no t0 t9 (by omega)
    · decide +kernel
    · exact dig_no a0 a9 (by omega)
theorem hd_no {t a : Int} (t0 : 0 ≤ t) (t9 : t ≤ 9) (a0 : 0 ≤ a) (a9 : a ≤ 9) {c : Nat} (hc : c = 58 ∨ c = 10 ∨ c = 44) : c ∉ cs (hdX t a) := by
  show c ∉ cs (digS t ++ spS ++ (("from" : Str) ++ spS ++ digS a))
  rw [cs_app, cs_app, cs_app, cs_app, sp_cs, dig_cs t0 t9, dig_cs a0 a9, show cs ("from" : Str) = [102, 114, 111, 109] by decide +kernel]
  simp only [List.cons_append, List.nil_append, List.mem_cons, List.not_mem_nil, or_false]
  omega
/-- what chain_in tells -/
def lineF (x : Str) : D := match Txt.split (Txt.partition x clS).1 spS with
  | [a, f, b] => if f = "from" then .tup [figD a, figD b, .tup (if (Txt.partition x clS).2.1 = "" then [] else (Txt.split (Txt.partition x clS).2.2 cmS).map stageD)] else .non
  | _ => .non
def lineD (x : Str) : D := if chnB (lineF x) = true then lineF x else .non
theorem line_hd {t a : Int} (t0 : 0 ≤ t) (t9 : t ≤ 9) (a0 : 0 ≤ a) (a9 : a ≤ 9) : lineF (hdX t a) = .tup [.int t, .int a, .tup []] := by
  have hp : Txt.partition (hdX t a) clS = (hdX t a, Str.empty, Str.empty) := by
    rcases part_cases (hdX t a) clS with ⟨h, _⟩ | ⟨h, r, e, ex, _⟩
    · exact h
    · exfalso
      have : 58 ∈ cs (hdX t a) := by rw [ex, cs_app, cs_app, cl_cs]; simp
      exact hd_no t0 t9 a0 a9 (.inl rfl) this
  unfold lineF
  rw [hp]
  dsimp only
  rw [hd_split t0 t9 a0 a9]
  show (if ("from" : Str) = "from" then D.tup [figD (digS t), figD (digS a), .tup (if Str.empty = ("" : Str) then [] else _)] else .non) = _
  rw [if_pos rfl, num_dig t0 t9, num_dig a0 a9, if_pos (by decide +kernel)]
theorem line_st {t a : Int} {r : Str} (t0 : 0 ≤ t) (t9 : t ≤ 9) (a0 : 0 ≤ a) (a9 : a ≤ 9) : lineF (hdX t a ++ clS ++ r) = .tup [.int t, .int a, .tup ((Txt.split r cmS).map stageD)] := by
  unfold lineF
  rw [part_at cl_cs (hd_no t0 t9 a0 a9 (.inl rfl))]
  dsimp only
  rw [hd_split t0 t9 a0 a9]
  show (if ("from" : Str) = "from" then D.tup [figD (digS t), figD (digS a), .tup (if clS = ("" : Str) then [] else _)] else .non) = _
  rw [if_pos rfl, num_dig t0 t9, num_dig a0 a9, if_neg (by decide +kernel)]
/-- a line that says a chain has such a head -/
theorem line_inv {x : Str} (h : chnB (lineF x) = true) : ∃ t a : Int, 1 ≤ t ∧ t ≤ 5 ∧ 0 ≤ a ∧ a ≤ t ∧ (x = hdX t a ∨ ∃ r, x = hdX t a ++ clS ++ r) := by
  have hj : Str.join spS (Txt.split (Txt.partition x clS).1 spS) = (Txt.partition x clS).1 := StrLaws.join_split _ spS
  unfold lineF at h
  split at h
  · rename_i a f b e
    split at h
    · rename_i hf
      unfold chnB at h
      split at h
      · rename_i t b' ps ev
        injection ev with ev
        injection ev with e1 ev
        injection ev with e2 ev
        simp only [Bool.and_eq_true, decide_eq_true_eq] at h
        obtain ⟨⟨t1, t5⟩, h2, _⟩ := h
        obtain ⟨i, ei, i0, i1⟩ := fromB_int h2
        have ea := (num_inv e1).2.2
        rw [ei] at e2
        have eb := (num_inv e2).2.2
        rw [e, ea, eb, hf] at hj
        refine ⟨t, i, t1, t5, i0, i1, ?_⟩
        rcases part_cases x clS with ⟨hp, _⟩ | ⟨h', r, hp, ex, _⟩
        · rw [hp] at hj
          exact .inl hj.symm
        · rw [hp] at hj
          refine .inr ⟨r, ?_⟩
          rw [ex]
          show h' ++ clS ++ r = _
          rw [show h' = hdX t i from hj.symm]
      · cases h
    · cases h
  · cases h
end VC

set_option Elab.async false
set_option linter.all false
set_option maxRecDepth 100000
set_option maxHeartbeats 4000000
/-! S1: the checks with their errors. -/
namespace VC
open PySem PySem.Spec PyProof.Rows L2
abbrev err (x : Str) : XD := ⟨x, []⟩
def spx_need_chain : FSpec := fun ds S R E => ∃ (v : D) (n : Nat), ds = [v] ∧ datd v n = true ∧ (chnB v = true → R (.val .non) S) ∧ (chnB v = false → E (err "InvalidChain") S)
theorem chnB_inv {v : D} (h : chnB v = true) : ∃ t s ps, v = .tup [.int t, s, .tup ps] := by
  unfold chnB at h
  split at h
  · exact ⟨_, _, _, rfl⟩
  · cases h
def topD : D → Int
  | .tup (.int t :: _) => t
  | _ => 0
/-- what need_pair raises -/
def pairE (v u : D) : Option Str := if chnB v = true ∧ chnB u = true then (if topD v = topD u then none else some "InvalidPair") else some "InvalidChain"
def spx_need_pair : FSpec := fun ds S R E => ∃ (v u : D) (n : Nat), ds = [v, u] ∧ datd v n = true ∧ datd u n = true ∧ (pairE v u = none → R (.val .non) S) ∧ ∀ x, pairE v u = some x → E (err x) S
/-- alike, parting_signal, bound, apart where the pair is no good -/
def spx_pairs : FSpec := fun ds S R E => ∃ (v u : D) (n : Nat) (x : Str), ds = [v, u] ∧ datd v n = true ∧ datd u n = true ∧ pairE v u = some x ∧ E (err x) S
def spx_need_number : FSpec := fun ds S R E => ∃ (v : D) (l h : Int), ds = [v, .int l, .int h] ∧ v.pl = true ∧ (fromB v l h = true → R (.val .non) S) ∧ (fromB v l h = false → E (err "InvalidNumber") S)
/-- what apart_signal raises -/
def apE (v u d : D) : Option Str := match pairE v u with
  | some x => some x
  | none => if fromB d (0 - topD v) (topD v) = true then none else some "InvalidNumber"
def spx_apart_signal : FSpec := fun ds S R E => ∃ (v u d : D) (n : Nat) (x : Str), ds = [v, u, d] ∧ datd v n = true ∧ datd u n = true ∧ d.pl = true ∧ apE v u d = some x ∧ E (err x) S
end VC

set_option Elab.async false
set_option linter.all false
set_option maxRecDepth 100000
set_option maxHeartbeats 4000000
/-! EG: the program's texts, written and read. -/
namespace VC
open PySem PySem.Spec PyProof.Rows L2
theorem log9 {i : Int} (h0 : 0 ≤ i) (h9 : i ≤ 9) : i.natAbs.log2 < 1920 := by
  have : i = 0 ∨ i = 1 ∨ i = 2 ∨ i = 3 ∨ i = 4 ∨ i = 5 ∨ i = 6 ∨ i = 7 ∨ i = 8 ∨ i = 9 := by omega
  rcases this with rfl | rfl | rfl | rfl | rfl | rfl | rfl | rfl | rfl | rfl <;> decide
theorem dig_len {i : Int} (h0 : 0 ≤ i) (h9 : i ≤ 9) : (digS i).length = 1 := by rw [← cs_len, dig_cs h0 h9]; rfl
theorem join_eq (y : Str) (l : List Str) : Txt.join y l = Str.join y l := StrLaws.glued_eq_join y l
theorem split_ne (x y : Str) : ∃ a l, Txt.split x y = a :: l := by
  unfold Txt.split
  split
  · exact ⟨_, _, rfl⟩
  · split
    · exact ⟨_, _, rfl⟩
    · rw [StrLaws.partsBetween_eq]
      exact StrLaws.partsFrom_ne x _ _ _
def sp_stage_text : FSpec := fun ds S R _ => ∃ (t : Int) (s : Stg), ds = [s.d] ∧ s.Ok t ∧ t ≤ 5 ∧ R (.val (.str (stgX s))) S
theorem mo_stage_text : MoF sp_stage_text := by (intro ds S R R' E i; repeat (first | exact i _ _ | (refine Exists.imp fun _ => ?_) | (refine And.imp_right ?_) | (intro f x; refine (show _ → _ from ?_) (f x))))
theorem vc_stage_text (ds S R) (h : sp_stage_text ds S R (fun _ _ => False)) : wf_stage_text (ENDS R) (env0 2 ds) S := by
  obtain ⟨t, s, rfl, ok, t5, q⟩ := h
  have three : ∀ (k : Str) (a b : Int), k.length = 4 → 0 ≤ a → a ≤ 5 → 0 ≤ b → b ≤ 5 → R (.val (.str (Str.join spS [k, digS a, digS b]))) S → wf_stage_text (ENDS R) (env0 2 [.tup [.str k, .int a, .int b]]) S := fun k a b hk a0 a5 b0 b5 q => by
    have la := log9 a0 (show a ≤ 9 by omega)
    have lb := log9 b0 (show b ≤ 9 by omega)
    ((try conv => whnf) <;> repeat ((first | (refine Ite.mt ?_ ?_; focus (first | rfl | (simp; done) | (simp; omega))) | (refine Ite.mf ?_ ?_; focus (first | rfl | (simp; done) | (simp; omega))) | (refine And.intro ?_ ?_; focus (first | rfl | decide | (simp; done) | (simp; omega) | omega))) <;> (try conv => whnf)))
    refine ⟨⟨rfl, (show (2 : Nat) ≤ 1000000 by decide)⟩, ?_⟩
    ((try conv => whnf) <;> repeat ((first | (refine Ite.mt ?_ ?_; focus (first | rfl | (simp; done) | (simp; omega))) | (refine Ite.mf ?_ ?_; focus (first | rfl | (simp; done) | (simp; omega))) | (refine And.intro ?_ ?_; focus (first | rfl | decide | (simp; done) | (simp; omega) | omega))) <;> (try conv => whnf)))
    refine ⟨(show (3 : Nat) ≤ sizeLine by decide), ?_⟩
    ((try conv => whnf) <;> repeat ((first | (refine Ite.mt ?_ ?_; focus (first | rfl | (simp; done) | (simp; omega))) | (refine Ite.mf ?_ ?_; focus (first | rfl | (simp; done) | (simp; omega))) | (refine And.intro ?_ ?_; focus (first | rfl | decide | (simp; done) | (simp; omega) | omega))) <;> (try conv => whnf)))
    refine ⟨[k, digS a, digS b], rfl, ?_, ?_⟩
    · simp [dig_len a0 (show a ≤ 9 by omega), dig_len b0 (show b ≤ 9 by omega), hk]
      decide
    · rw [join_eq]
      exact q
  cases s with
  | slew u d => obtain ⟨h1, h2, h3, h4⟩ := ok; exact three "slew" u d (by decide +kernel) h1 h2 h3 h4 q
  | clip l h' => obtain ⟨h1, h2, h3, h4⟩ := ok; exact three "clip" l h' (by decide +kernel) h1 (by omega) (by omega) (by omega) q
  | gate l h' => obtain ⟨h1, h2, h3, h4⟩ := ok; exact three "gate" l h' (by decide +kernel) h1 (by omega) (by omega) (by omega) q
  | hold w =>
    obtain ⟨h1, h2⟩ := ok
    have lw := log9 (show 0 ≤ w by omega) (show w ≤ 9 by omega)
    ((try conv => whnf) <;> repeat ((first | (refine Ite.mt ?_ ?_; focus (first | rfl | (simp; done) | (simp; omega))) | (refine Ite.mf ?_ ?_; focus (first | rfl | (simp; done) | (simp; omega))) | (refine And.intro ?_ ?_; focus (first | rfl | decide | (simp; done) | (simp; omega) | omega))) <;> (try conv => whnf)))
    refine ⟨⟨rfl, (show (1 : Nat) ≤ 1000000 by decide)⟩, ?_⟩
    ((try conv => whnf) <;> repeat ((first | (refine Ite.mt ?_ ?_; focus (first | rfl | (simp; done) | (simp; omega))) | (refine Ite.mf ?_ ?_; focus (first | rfl | (simp; done) | (simp; omega))) | (refine And.intro ?_ ?_; focus (first | rfl | decide | (simp; done) | (simp; omega) | omega))) <;> (try conv => whnf)))
    refine ⟨(show (2 : Nat) ≤ sizeLine by decide), ?_⟩
    ((try conv => whnf) <;> repeat ((first | (refine Ite.mt ?_ ?_; focus (first | rfl | (simp; done) | (simp; omega))) | (refine Ite.mf ?_ ?_; focus (first | rfl | (simp; done) | (simp; omega))) | (refine And.intro ?_ ?_; focus (first | rfl | decide | (simp; done) | (simp; omega) | omega))) <;> (try conv => whnf)))
    refine ⟨([("hold" : Str), digS w] : List Str), rfl, ?_, ?_⟩
    · simp [dig_len (show 0 ≤ w by omega) (show w ≤ 9 by omega)]
      decide +kernel
    · rw [join_eq]
      exact q
/-- a chain, written -/
def chX (c : Chn) : Str := if c.stages = [] then hdX c.top c.start else hdX c.top c.start ++ clS ++ Str.join cmS (c.stages.map stgX)
def sp_chain_text : FSpec := fun ds S R _ => ∃ c : Chn, ds = [c.d] ∧ c.Ok ∧ R (.val (.str (chX c))) S
theorem mo_chain_text : MoF sp_chain_text := by (intro ds S R R' E i; repeat (first | exact i _ _ | (refine Exists.imp fun _ => ?_) | (refine And.imp_right ?_) | (intro f x; refine (show _ → _ from ?_) (f x))))
def sp_number_in : FSpec := fun ds S R _ => ∃ w : Str, ds = [.str w] ∧ w.length ≤ 1000000 ∧ R (.val (figD w)) S
theorem mo_number_in : MoF sp_number_in := by (intro ds S R R' E i; repeat (first | exact i _ _ | (refine Exists.imp fun _ => ?_) | (refine And.imp_right ?_) | (intro f x; refine (show _ → _ from ?_) (f x))))
theorem fig_lit : cs ("0123456789" : Str) = [48, 49, 50, 51, 52, 53, 54, 55, 56, 57] := by decide +kernel
theorem int_lit {c : Nat} (h : 48 ≤ c ∧ c ≤ 57) : intText? (⟨#[c]⟩ : Str) = some ((c : Int) - 48) := by
  have : c = 48 ∨ c = 49 ∨ c = 50 ∨ c = 51 ∨ c = 52 ∨ c = 53 ∨ c = 54 ∨ c = 55 ∨ c = 56 ∨ c = 57 := by omega
  rcases this with rfl | rfl | rfl | rfl | rfl | rfl | rfl | rfl | rfl | rfl <;> decide +kernel
theorem vc_number_in (ds S R) (h : sp_number_in ds S R (fun _ _ => False)) : wf_number_in (ENDS R) (env0 1 ds) S := by
  obtain ⟨w, rfl, hl, q⟩ := h
  have hl' : w.length ≤ sizeLine := th40 hl
  ((try conv => whnf) <;> repeat ((first | (refine Ite.mt ?_ ?_; focus (first | rfl | (simp; done) | (simp; omega))) | (refine Ite.mf ?_ ?_; focus (first | rfl | (simp; done) | (simp; omega))) | (refine And.intro ?_ ?_; focus (first | rfl | decide | (simp; done) | (simp; omega) | omega))) <;> (try conv => whnf)))
  refine Ite.intro (fun hc => ?_) (fun hc => ?_)
  · have hc : w.length = 1 := by
      have : (w.length : Int) = 1 := by simpa using hc
      omega
    obtain ⟨c, hw⟩ : ∃ c, cs w = [c] := by
      rw [← cs_len] at hc
      exact List.length_eq_one_iff.mp hc
    have ew : w = ⟨#[c]⟩ := cs_ext hw
    (conv => whnf)
    refine ⟨c, ew, ?_⟩
    rw [show (("0123456789" : Str).cps.toList) = [48, 49, 50, 51, 52, 53, 54, 55, 56, 57] from fig_lit]
    by_cases hd : 48 ≤ c ∧ c ≤ 57
    · have hq : figD w = .int ((c : Int) - 48) := by unfold figD; rw [hw]; exact if_pos hd
      rw [hq] at q
      (conv => whnf)
      refine Ite.mt (by simp; omega) ?_
      subst ew
      (conv => whnf)
      exact ⟨(show (1 : Nat) ≤ 640 by decide), _, int_lit hd, q⟩
    · have hq : figD w = .non := by unfold figD; rw [hw]; exact if_neg hd
      rw [hq] at q
      (conv => whnf)
      refine Ite.mf (by simp; omega) ?_
      ((try conv => whnf) <;> repeat ((first | (refine Ite.mt ?_ ?_; focus (first | rfl | (simp; done) | (simp; omega))) | (refine Ite.mf ?_ ?_; focus (first | rfl | (simp; done) | (simp; omega))) | (refine And.intro ?_ ?_; focus (first | rfl | decide | (simp; done) | (simp; omega) | omega))) <;> (try conv => whnf)))
      exact q
  · have hc : ¬ w.length = 1 := by
      have : ¬ (w.length : Int) = 1 := by simpa using hc
      omega
    have hq : figD w = .non := by
      unfold figD
      split
      · rename_i c e
        exact absurd (by rw [← cs_len, e]; rfl) hc
      · rfl
    rw [hq] at q
    ((try conv => whnf) <;> repeat ((first | (refine Ite.mt ?_ ?_; focus (first | rfl | (simp; done) | (simp; omega))) | (refine Ite.mf ?_ ?_; focus (first | rfl | (simp; done) | (simp; omega))) | (refine And.intro ?_ ?_; focus (first | rfl | decide | (simp; done) | (simp; omega) | omega))) <;> (try conv => whnf)))
    exact q
end VC

set_option Elab.async false
set_option linter.all false
set_option maxRecDepth 100000
set_option maxHeartbeats 4000000
/-! S2: levels, signals, outputs that are no good. -/
namespace VC
open PySem PySem.Spec PyProof.Rows L2
def levB (t m : Int) : D → Bool
  | .tup xs => decide ((xs.length : Int) ≤ m) && xs.all fun d => fromB d 0 t
  | _ => false
def sa_are_levels : FSpec := fun ds S R _ => ∃ (t m : Int) (v : D) (n : Nat), ds = [.int t, v, .int m] ∧ datd v n = true ∧ R (.val (.bl (levB t m v))) S
def sa_are_levels_2 : FSpec := fun ds S R E => sa_are_levels (ds ++ [.int 40]) S R E
/-- a chain and a row that is no good -/
def spx_need_signal : FSpec := fun ds S R E => ∃ (v u : D) (n : Nat), ds = [v, u] ∧ chnB v = true ∧ datd u n = true ∧ (levB (topD v) 40 u = true → R (.val .non) S) ∧ (levB (topD v) 40 u = false → E (err "InvalidSignal") S)
def spx_need_outputs : FSpec := fun ds S R E => ∃ (v u : D) (n : Nat), ds = [v, u] ∧ chnB v = true ∧ datd u n = true ∧ (levB (topD v) 40 u = true → R (.val .non) S) ∧ (levB (topD v) 40 u = false → E (err "InvalidOutputs") S)
def spx_need_level : FSpec := fun ds S R E => ∃ (v u : D), ds = [v, u] ∧ chnB v = true ∧ u.pl = true ∧ (fromB u 0 (topD v) = true → R (.val .non) S) ∧ (fromB u 0 (topD v) = false → E (err "InvalidLevel") S)
/-- what a call (chain, row) raises: chain first -/
def rowE (word : Str) (v u : D) : Option Str := if chnB v = true then (if levB (topD v) 40 u = true then none else (some word : Option Str)) else some "InvalidChain"
/-- .. of a chain and outputs, no good -/
def spx_outs : FSpec := fun ds S R E => ∃ (v u : D) (n : Nat) (x : Str), ds = [v, u] ∧ datd v n = true ∧ datd u n = true ∧ rowE "InvalidOutputs" v u = some x ∧ E (err x) S
/-- .. of a chain and a signal, no good -/
def spx_sigs : FSpec := fun ds S R E => ∃ (v u : D) (n : Nat) (x : Str), ds = [v, u] ∧ datd v n = true ∧ datd u n = true ∧ rowE "InvalidSignal" v u = some x ∧ E (err x) S
def lvE (v u : D) : Option Str := if chnB v = true then (if fromB u 0 (topD v) = true then none else some "InvalidLevel") else some "InvalidChain"
def spx_settled : FSpec := fun ds S R E => ∃ (v u : D) (n : Nat) (x : Str), ds = [v, u] ∧ datd v n = true ∧ u.pl = true ∧ lvE v u = some x ∧ E (err x) S
end VC

set_option Elab.async false
set_option linter.all false
set_option maxRecDepth 100000
set_option maxHeartbeats 4000000
/-! S3: the checks' promises for any data hold the ones for good data. -/
namespace VC
open PySem PySem.Spec PyProof.Rows L2
theorem datd_stg (s : Stg) : datd s.d 1 = true := by
  cases s <;> simp only [Stg.d, datd, datds, Bool.and_eq_true, decide_eq_true_eq] <;> simp <;> decide +kernel
theorem datd_allD {n : Nat} : ∀ {ds : List D}, (∀ d ∈ ds, datd d n = true) → datds ds n = true
  | [], _ => rfl
  | d :: ds, h => by
    simp only [datds, Bool.and_eq_true]
    exact ⟨h d (List.mem_cons_self ..), datd_allD fun x hx => h x (List.mem_cons_of_mem _ hx)⟩
theorem datd_chn {c : Chn} (ok : c.Ok) : datd c.d 3 = true := by
  simp only [Chn.d, datd, datds, Bool.and_eq_true, decide_eq_true_eq, Bool.and_true, Bool.true_and]
  refine ⟨by simp, by have := ok.len; simp; omega, datd_allD fun d hd => ?_⟩
  obtain ⟨s, _, rfl⟩ := List.mem_map.mp hd
  exact datd_stg s
theorem stgB_on {t : Int} {s : Stg} (h : s.Ok t) : stgB t s.d = true := by
  cases s <;> simp only [Stg.Ok] at h <;> simp [Stg.d, stgB, fromB] <;> omega
theorem chnB_on {c : Chn} (ok : c.Ok) : chnB c.d = true := by
  simp only [Chn.d, chnB, fromB, Bool.and_eq_true, decide_eq_true_eq, List.length_map, nc_keeps, List.all_eq_true]
  refine ⟨⟨ok.t1, ok.t5⟩, ⟨ok.s0, ok.st⟩, ok.len, fun d hd => ?_, ok.kp⟩
  obtain ⟨s, hs, rfl⟩ := List.mem_map.mp hd
  exact stgB_on (ok.ok s hs)
theorem mo_a_is_from : MoF sa_is_from := by (intro ds S R R' E i; repeat (first | exact i _ _ | (refine Exists.imp fun _ => ?_) | (refine And.imp_right ?_) | (intro f x; refine (show _ → _ from ?_) (f x))))
theorem mo_a_is_stage_of : MoF sa_is_stage_of := by (intro ds S R R' E i; repeat (first | exact i _ _ | (refine Exists.imp fun _ => ?_) | (refine And.imp_right ?_) | (intro f x; refine (show _ → _ from ?_) (f x))))
theorem mo_a_is_chain_of : MoF sa_is_chain_of := by (intro ds S R R' E i; repeat (first | exact i _ _ | (refine Exists.imp fun _ => ?_) | (refine And.imp_right ?_) | (intro f x; refine (show _ → _ from ?_) (f x))))
end VC

set_option Elab.async false
set_option linter.all false
set_option maxRecDepth 100000
set_option maxHeartbeats 4000000
/-! EH: chain_text, stage_in, chain_in. -/
namespace VC
open PySem PySem.Spec PyProof.Rows L2
theorem vc23_need_chain (ds S R) (h : sp_need_chain ds S R (fun _ _ => False)) : wf_need_chain sa_is_chain_of (ENDS R) (env0 1 ds) S := by
  obtain ⟨c, rfl, ok, q⟩ := h
  ((try conv => whnf) <;> repeat ((first | (refine Ite.mt ?_ ?_; focus (first | rfl | (simp; done) | (simp; omega))) | (refine Ite.mf ?_ ?_; focus (first | rfl | (simp; done) | (simp; omega))) | (refine And.intro ?_ ?_; focus (first | rfl | decide | (simp; done) | (simp; omega) | omega))) <;> (try conv => whnf)))
  refine ⟨c.d, 3, rfl, datd_chn ok, ?_⟩
  rw [chnB_on ok]
  ((try conv => whnf) <;> repeat ((first | (refine Ite.mt ?_ ?_; focus (first | rfl | (simp; done) | (simp; omega))) | (refine Ite.mf ?_ ?_; focus (first | rfl | (simp; done) | (simp; omega))) | (refine And.intro ?_ ?_; focus (first | rfl | decide | (simp; done) | (simp; omega) | omega))) <;> (try conv => whnf)))
  exact q
theorem from_cs : cs (" from " : Str) = [32, 102, 114, 111, 109, 32] := by decide +kernel
theorem from_cs2 : cs ("from" : Str) = [102, 114, 111, 109] := by decide +kernel
theorem hd_eq (t a : Int) : digS t ++ (" from " : Str) ++ digS a = hdX t a := by
  refine cs_ext ?_
  show cs (digS t ++ (" from " : Str) ++ digS a) = cs (digS t ++ spS ++ (("from" : Str) ++ spS ++ digS a))
  simp only [cs_app, from_cs, from_cs2, sp_cs, List.append_assoc, List.cons_append, List.nil_append]
theorem hd_eq0 (t a : Int) : Str.empty ++ digS t ++ (" from " : Str) ++ digS a = hdX t a := by
  rw [Str.empty_append]; exact hd_eq t a
theorem hd_len {t a : Int} (t0 : 0 ≤ t) (t9 : t ≤ 9) (a0 : 0 ≤ a) (a9 : a ≤ 9) : (hdX t a).length = 8 := by
  rw [← hd_eq, Str.length_append, Str.length_append, dig_len t0 t9, dig_len a0 a9, ← cs_len, from_cs]; rfl
theorem stg_len {t : Int} {s : Stg} (ok : s.Ok t) (t5 : t ≤ 5) : (stgX s).length ≤ 8 := by
  have three : ∀ (k : Str) (a b : Int), k.length = 4 → 0 ≤ a → a ≤ 5 → 0 ≤ b → b ≤ 5 → (Str.join spS [k, digS a, digS b]).length ≤ 8 := fun k a b hk a0 a5 b0 b5 => by
    show (k ++ spS ++ (digS a ++ spS ++ digS b)).length ≤ 8
    simp only [Str.length_append, hk, dig_len a0 (show a ≤ 9 by omega), dig_len b0 (show b ≤ 9 by omega), show spS.length = 1 by decide +kernel]
    omega
  cases s with
  | slew u d => obtain ⟨h1, h2, h3, h4⟩ := ok; exact three "slew" u d (by decide +kernel) h1 h2 h3 h4
  | clip l h' => obtain ⟨h1, h2, h3, h4⟩ := ok; exact three "clip" l h' (by decide +kernel) h1 (by omega) (by omega) (by omega)
  | gate l h' => obtain ⟨h1, h2, h3, h4⟩ := ok; exact three "gate" l h' (by decide +kernel) h1 (by omega) (by omega) (by omega)
  | hold w =>
    obtain ⟨h1, h2⟩ := ok
    show (("hold" : Str) ++ spS ++ digS w).length ≤ 8
    simp only [Str.length_append, dig_len (show 0 ≤ w by omega) (show w ≤ 9 by omega), show spS.length = 1 by decide +kernel, show ("hold" : Str).length = 4 by decide +kernel]
    omega
theorem sum_le {l : List Str} {m : Nat} (h : ∀ x ∈ l, x.length ≤ m) : (l.map (·.length)).sum ≤ l.length * m := StrLaws.sumLen_le l h
theorem lcW_pureA {α : Type} {vs : List Nat} {G : WG} {Wt : WT} {We : WE} {Q : List D → VEnv → Sto → Prop} (enc : α → D) (f : α → Option D) (e0 : VEnv) (s0 : Sto) {items : List α}
    (step : ∀ a ∈ items, ∀ (K : List D → VEnv → Sto → Prop) acc, K (acc ++ (f a).toList) e0 s0 → G (enc a) e0 s0 fun e1 s1 => Wt e1 s1 fun b e2 s2 => Ite b (We e2 s2 fun t e3 s3 => K (acc ++ [t.d]) (wpE e3 vs) s3) (K acc (wpE e2 vs) s2))
    {acc : List D} (q : Q (acc ++ items.filterMap f) e0 s0) : lcW vs G Wt We (items.map enc) acc e0 s0 Q := by
  have key : ∀ (l : List α) (acc' : List D), (∀ a ∈ l, a ∈ items) → acc' ++ l.filterMap f = acc ++ items.filterMap f → lcW vs G Wt We (l.map enc) acc' e0 s0 Q := by
    intro l
    induction l with
    | nil => intro acc' _ h; rw [List.filterMap_nil, List.append_nil] at h; rw [← h] at q; exact q
    | cons a l ih =>
      intro acc' hm h
      rw [List.map_cons]
      unfold lcW
      refine step a (hm a (List.mem_cons_self ..)) (fun acc e s => lcW vs G Wt We (l.map enc) acc e s Q) acc' ?_
      refine ih _ (fun b hb => hm b (List.mem_cons_of_mem _ hb)) ?_
      rw [← h, List.filterMap_cons]
      cases f a <;> simp
  exact key items acc (fun _ h => h) rfl
theorem vc_chain_text (ds S R) (h : sp_chain_text ds S R (fun _ _ => False)) : wf_chain_text sp_stage_text sp_need_chain (ENDS R) (env0 3 ds) S := by
  obtain ⟨c, rfl, ok, q⟩ := h
  have t1 := ok.t1
  have t5 := ok.t5
  have s0 := ok.s0
  have s1 := ok.st
  have lt := log9 (show 0 ≤ c.top by omega) (show c.top ≤ 9 by omega)
  have ls := log9 (show 0 ≤ c.start by omega) (show c.start ≤ 9 by omega)
  have d1 := dig_len (show 0 ≤ c.top by omega) (show c.top ≤ 9 by omega)
  have d2 := dig_len (show 0 ≤ c.start by omega) (show c.start ≤ 9 by omega)
  unfold digS at d1 d2
  have z0 : (Str.empty : Str).length = 0 := rfl
  have z1 : ((" from " : Str)).length = 6 := by decide +kernel
  have dd : datd (.tup (c.stages.map Stg.d)) 3 = true := by
    simp only [datd, Bool.and_eq_true, decide_eq_true_eq]
    exact ⟨by rw [List.length_map]; have := ok.len; omega, datd_allD fun d hd => by
      obtain ⟨s, _, rfl⟩ := List.mem_map.mp hd
      exact datd_mono _ _ _ (datd_stg s) (by decide)⟩
  ((try conv => whnf) <;> repeat ((first | (refine Ite.mt ?_ ?_; focus (first | rfl | (simp; done) | (simp; omega))) | (refine Ite.mf ?_ ?_; focus (first | rfl | (simp; done) | (simp; omega))) | (refine And.intro ?_ ?_; focus (first | rfl | decide | (simp; done) | (simp; omega) | omega))) <;> (try conv => whnf)))
  refine ⟨c, rfl, ok, ?_⟩
  ((try conv => whnf) <;> repeat ((first | (refine Ite.mt ?_ ?_; focus (first | rfl | (simp; done) | (simp; omega))) | (refine Ite.mf ?_ ?_; focus (first | rfl | (simp; done) | (simp; omega))) | (refine And.intro ?_ ?_; focus (first | rfl | decide | (simp; done) | (simp; omega) | omega))) <;> (try conv => whnf)))
  refine ⟨by simp only [Str.length_append]; omega, by simp only [Str.length_append]; omega, ?_⟩
  ((try conv => whnf) <;> repeat ((first | (refine Ite.mt ?_ ?_; focus (first | rfl | (simp; done) | (simp; omega))) | (refine Ite.mf ?_ ?_; focus (first | rfl | (simp; done) | (simp; omega))) | (refine And.intro ?_ ?_; focus (first | rfl | decide | (simp; done) | (simp; omega) | omega))) <;> (try conv => whnf)))
  refine ⟨by simp only [Str.length_append]; omega, ?_⟩
  rw [show Str.empty ++ ((toString c.top : String) : Str) ++ (" from " : Str) ++ ((toString c.start : String) : Str) = hdX c.top c.start from hd_eq0 _ _]
  (conv => whnf)
  refine ⟨by decide, ?_⟩
  (conv => whnf)
  refine ⟨⟨datd_cmp dd (by decide), rfl⟩, ?_⟩
  (conv => whnf)
  by_cases hs : c.stages = []
  · refine Ite.mf (show (!D.eqv (.tup (c.stages.map Stg.d)) (.tup [])) = false by rw [hs]; rfl) ?_
    ((try conv => whnf) <;> repeat ((first | (refine Ite.mt ?_ ?_; focus (first | rfl | (simp; done) | (simp; omega))) | (refine Ite.mf ?_ ?_; focus (first | rfl | (simp; done) | (simp; omega))) | (refine And.intro ?_ ?_; focus (first | rfl | decide | (simp; done) | (simp; omega) | omega))) <;> (try conv => whnf)))
    rw [chX, if_pos hs] at q
    exact q
  · refine Ite.mt (show (!D.eqv (.tup (c.stages.map Stg.d)) (.tup [])) = true by
      obtain ⟨a, l, e⟩ := List.exists_cons_of_ne_nil hs
      rw [e]; rfl) ?_
    rw [chX, if_neg hs] at q
    have sl : ∀ x ∈ c.stages.map stgX, x.length ≤ 8 := fun x hx => by
      obtain ⟨s, hs, rfl⟩ := List.mem_map.mp hx
      exact stg_len (ok.ok s hs) t5
    have ln := ok.len
    have sm := sum_le sl
    have jl := StrLaws.join_length_le cmS (c.stages.map stgX)
    have cl : cmS.length = 2 := by decide +kernel
    rw [List.length_map] at sm jl
    rw [cl] at jl
    have hl := hd_len (show 0 ≤ c.top by omega) (show c.top ≤ 9 by omega) (show 0 ≤ c.start by omega) (show c.start ≤ 9 by omega)
    ((try conv => whnf) <;> repeat ((first | (refine Ite.mt ?_ ?_; focus (first | rfl | (simp; done) | (simp; omega))) | (refine Ite.mf ?_ ?_; focus (first | rfl | (simp; done) | (simp; omega))) | (refine And.intro ?_ ?_; focus (first | rfl | decide | (simp; done) | (simp; omega) | omega))) <;> (try conv => whnf)))
    refine ⟨⟨rfl, by rw [List.length_map]; omega⟩, ?_⟩
    refine lcW_pureA Stg.d (fun s => some (.str (stgX s))) _ _ (fun s hs K acc hK => ?_) ?_
    · ((try conv => whnf) <;> repeat ((first | (refine Ite.mt ?_ ?_; focus (first | rfl | (simp; done) | (simp; omega))) | (refine Ite.mf ?_ ?_; focus (first | rfl | (simp; done) | (simp; omega))) | (refine And.intro ?_ ?_; focus (first | rfl | decide | (simp; done) | (simp; omega) | omega))) <;> (try conv => whnf)))
      refine ⟨c.top, s, rfl, ok.ok s hs, t5, ?_⟩
      ((try conv => whnf) <;> repeat ((first | (refine Ite.mt ?_ ?_; focus (first | rfl | (simp; done) | (simp; omega))) | (refine Ite.mf ?_ ?_; focus (first | rfl | (simp; done) | (simp; omega))) | (refine And.intro ?_ ?_; focus (first | rfl | decide | (simp; done) | (simp; omega) | omega))) <;> (try conv => whnf)))
      exact hK
    rw [List.nil_append, List.filterMap_eq_map', show (c.stages.map fun s => D.str (stgX s)) = (c.stages.map stgX).map D.str by rw [List.map_map]; rfl]
    ((try conv => whnf) <;> repeat ((first | (refine Ite.mt ?_ ?_; focus (first | rfl | (simp; done) | (simp; omega))) | (refine Ite.mf ?_ ?_; focus (first | rfl | (simp; done) | (simp; omega))) | (refine And.intro ?_ ?_; focus (first | rfl | decide | (simp; done) | (simp; omega) | omega))) <;> (try conv => whnf)))
    refine ⟨c.stages.map stgX, rfl, ?_, ?_⟩
    · rw [List.length_map, show (", " : Str).length = 2 by decide +kernel]
      omega
    rw [join_eq]
    ((try conv => whnf) <;> repeat ((first | (refine Ite.mt ?_ ?_; focus (first | rfl | (simp; done) | (simp; omega))) | (refine Ite.mf ?_ ?_; focus (first | rfl | (simp; done) | (simp; omega))) | (refine And.intro ?_ ?_; focus (first | rfl | decide | (simp; done) | (simp; omega) | omega))) <;> (try conv => whnf)))
    refine ⟨(show (2 : Nat) ≤ sizeLine by decide), ?_⟩
    ((try conv => whnf) <;> repeat ((first | (refine Ite.mt ?_ ?_; focus (first | rfl | (simp; done) | (simp; omega))) | (refine Ite.mf ?_ ?_; focus (first | rfl | (simp; done) | (simp; omega))) | (refine And.intro ?_ ?_; focus (first | rfl | decide | (simp; done) | (simp; omega) | omega))) <;> (try conv => whnf)))
    refine ⟨[hdX c.top c.start, Str.join cmS (c.stages.map stgX)], rfl, ?_, ?_⟩
    · simp only [List.map_cons, List.map_nil, List.sum_cons, List.sum_nil, List.length_cons, List.length_nil, show (": " : Str).length = 2 by decide +kernel]
      omega
    · rw [join_eq]
      exact q
theorem cut_tail {x : D} {xs : List D} : cutD (x :: xs) (some 1) none = xs := by
  simp [cutD, HT.sIx]
/-! ### what stands in a joined text -/
theorem join_mem {y : Str} {c : Nat} : ∀ {l : List Str} {q : Str}, q ∈ l → c ∈ cs q → c ∈ cs (Str.join y l)
  | [a], q, h, hc => by
    rw [List.mem_singleton.mp h] at hc
    exact hc
  | a :: b :: l, q, h, hc => by
    show c ∈ cs (a ++ y ++ Str.join y (b :: l))
    rw [cs_app, cs_app]
    rcases List.mem_cons.mp h with rfl | h
    · simp [hc]
    · exact List.mem_append_right _ (join_mem h hc)
theorem join_len {y : Str} : ∀ {l : List Str} {q : Str}, q ∈ l → q.length ≤ (Str.join y l).length
  | [a], q, h => by
    rw [List.mem_singleton.mp h]
    exact Nat.le_refl _
  | a :: b :: l, q, h => by
    show q.length ≤ (a ++ y ++ Str.join y (b :: l)).length
    rw [Str.length_append, Str.length_append]
    rcases List.mem_cons.mp h with rfl | h
    · omega
    · have := join_len (y := y) h
      omega
theorem piece_mem {x y q : Str} {c : Nat} (h : q ∈ Txt.split x y) (hc : c ∈ cs q) : c ∈ cs x := by
  rw [← StrLaws.join_split x y]; exact join_mem h hc
theorem piece_len {x y q : Str} (h : q ∈ Txt.split x y) : q.length ≤ x.length := by
  have := join_len (y := y) h
  rw [StrLaws.join_split] at this
  exact this
/-- all signs are such as a text may hold -/
def Tx (x : Str) : Prop := ∀ c ∈ cs x, c < 0x110000
theorem tx_ok {x : Str} (h : Tx x) : PyData.strOk x = true := by
  unfold PyData.strOk
  rw [← Array.all_toList, List.all_eq_true]
  exact fun c hc => decide_eq_true (h c hc)
theorem Tx.piece {x y q : Str} (h : Tx x) (hq : q ∈ Txt.split x y) : Tx q := fun c hc => h c (piece_mem hq hc)
def sp_stage_in : FSpec := fun ds S R _ => ∃ w : Str, ds = [.str w] ∧ w.length ≤ 100000 ∧ R (.val (stageD w)) S
theorem mo_stage_in : MoF sp_stage_in := by (intro ds S R R' E i; repeat (first | exact i _ _ | (refine Exists.imp fun _ => ?_) | (refine And.imp_right ?_) | (intro f x; refine (show _ → _ from ?_) (f x))))
theorem vc_stage_in (ds S R) (h : sp_stage_in ds S R (fun _ _ => False)) : wf_stage_in sp_number_in (ENDS R) (env0 3 ds) S := by
  obtain ⟨w, rfl, hl, q⟩ := h
  obtain ⟨a, l, e⟩ := split_ne w spS
  have pl : ∀ q ∈ Txt.split w spS, q.length ≤ w.length := fun q hq => piece_len hq
  have sl : (Txt.split w spS).length ≤ w.length + 2 := PyProof.Rows.split_le w spS
  unfold stageD at q
  rw [e] at q pl sl
  rw [List.length_cons] at sl
  ((try conv => whnf) <;> repeat ((first | (refine Ite.mt ?_ ?_; focus (first | rfl | (simp; done) | (simp; omega))) | (refine Ite.mf ?_ ?_; focus (first | rfl | (simp; done) | (simp; omega))) | (refine And.intro ?_ ?_; focus (first | rfl | decide | (simp; done) | (simp; omega) | omega))) <;> (try conv => whnf)))
  rw [show Txt.split w (" " : Str) = a :: l from e]
  refine ⟨⟨by decide +kernel, by omega⟩, ?_⟩
  ((try conv => whnf) <;> repeat ((first | (refine Ite.mt ?_ ?_; focus (first | rfl | (simp; done) | (simp; omega))) | (refine Ite.mf ?_ ?_; focus (first | rfl | (simp; done) | (simp; omega))) | (refine And.intro ?_ ?_; focus (first | rfl | decide | (simp; done) | (simp; omega) | omega))) <;> (try conv => whnf)))
  rw [show cutD ((a :: l).map D.str) (some 1) none = l.map D.str from cut_tail]
  refine ⟨⟨rfl, by rw [List.length_map]; omega⟩, ?_⟩
  refine lcW_pureA D.str (fun w => some (figD w)) _ _ (fun w' hw K acc hK => ?_) ?_
  · ((try conv => whnf) <;> repeat ((first | (refine Ite.mt ?_ ?_; focus (first | rfl | (simp; done) | (simp; omega))) | (refine Ite.mf ?_ ?_; focus (first | rfl | (simp; done) | (simp; omega))) | (refine And.intro ?_ ?_; focus (first | rfl | decide | (simp; done) | (simp; omega) | omega))) <;> (try conv => whnf)))
    refine ⟨w', rfl, by have := pl w' (List.mem_cons_of_mem _ hw); omega, ?_⟩
    ((try conv => whnf) <;> repeat ((first | (refine Ite.mt ?_ ?_; focus (first | rfl | (simp; done) | (simp; omega))) | (refine Ite.mf ?_ ?_; focus (first | rfl | (simp; done) | (simp; omega))) | (refine And.intro ?_ ?_; focus (first | rfl | decide | (simp; done) | (simp; omega) | omega))) <;> (try conv => whnf)))
    exact hK
  rw [List.nil_append, List.filterMap_eq_map']
  ((try conv => whnf) <;> repeat ((first | (refine Ite.mt ?_ ?_; focus (first | rfl | (simp; done) | (simp; omega))) | (refine Ite.mf ?_ ?_; focus (first | rfl | (simp; done) | (simp; omega))) | (refine And.intro ?_ ?_; focus (first | rfl | decide | (simp; done) | (simp; omega) | omega))) <;> (try conv => whnf)))
  refine ⟨th40 (by rw [List.length_map]; show 1 + l.length ≤ _; omega), ?_⟩
  ((try conv => whnf) <;> repeat ((first | (refine Ite.mt ?_ ?_; focus (first | rfl | (simp; done) | (simp; omega))) | (refine Ite.mf ?_ ?_; focus (first | rfl | (simp; done) | (simp; omega))) | (refine And.intro ?_ ?_; focus (first | rfl | decide | (simp; done) | (simp; omega) | omega))) <;> (try conv => whnf)))
  exact q
/-! ### chain_in -/
def sp_chain_in : FSpec := fun ds S R _ => ∃ x : Str, ds = [.str x] ∧ x.length ≤ 10000 ∧ Tx x ∧ R (.val (lineD x)) S
theorem mo_chain_in : MoF sp_chain_in := by (intro ds S R R' E i; repeat (first | exact i _ _ | (refine Exists.imp fun _ => ?_) | (refine And.imp_right ?_) | (intro f x; refine (show _ → _ from ?_) (f x))))
theorem part_len (x : Str) : (Txt.partition x clS).1.length ≤ x.length ∧ (Txt.partition x clS).2.1.length ≤ 2 ∧ (Txt.partition x clS).2.2.length ≤ x.length := by
  rcases part_cases x clS with ⟨e, _⟩ | ⟨h, r, e, ex, _⟩
  · rw [e]; exact ⟨Nat.le_refl _, Nat.zero_le _, Nat.zero_le _⟩
  · rw [e]
    have := congrArg Str.length ex
    rw [Str.length_append, Str.length_append] at this
    exact ⟨by show h.length ≤ _; omega, by show clS.length ≤ 2; decide +kernel, by show r.length ≤ _; omega⟩
theorem part_tx {x : Str} (h : Tx x) : Tx (Txt.partition x clS).1 ∧ Tx (Txt.partition x clS).2.2 := by
  rcases part_cases x clS with ⟨e, _⟩ | ⟨h', r, e, ex, _⟩
  · rw [e]; exact ⟨h, fun c hc => by cases hc⟩
  · rw [e]
    refine ⟨fun c hc => h c ?_, fun c hc => h c ?_⟩
    · rw [ex, cs_app, cs_app]; simp [show c ∈ cs h' from hc]
    · rw [ex, cs_app, cs_app]; exact List.mem_append_right _ hc
theorem datd_str {x : Str} (h : Tx x) (n : Nat) : datd (.str x) n = true := by cases n <;> (simp only [datd]; exact tx_ok h)
theorem datd_fig (w : Str) (n : Nat) : datd (figD w) n = true := by
  unfold figD
  split
  · split <;> cases n <;> rfl
  · cases n <;> rfl
theorem datd_tupE {n : Nat} {xs : List D} (hl : xs.length ≤ 1000000) (h : ∀ d ∈ xs, datd d n = true) : datd (.tup xs) (n + 1) = true := by
  simp only [datd, Bool.and_eq_true, decide_eq_true_eq]
  exact ⟨hl, datd_allD h⟩
theorem datd_stage {w : Str} (h : Tx w) (hl : w.length ≤ 100000) : datd (stageD w) 1 = true := by
  have sl := PyProof.Rows.split_le w spS
  have px : ∀ q ∈ Txt.split w spS, Tx q := fun q hq => h.piece hq
  unfold stageD
  split
  · rename_i a l e
    rw [e] at sl px
    refine datd_tupE (by rw [List.length_cons, List.length_map]; rw [List.length_cons] at sl; omega) fun d hd => ?_
    rcases List.mem_cons.mp hd with rfl | hd
    · exact datd_str (px a (List.mem_cons_self ..)) 0
    · obtain ⟨w', _, rfl⟩ := List.mem_map.mp hd
      exact datd_fig w' 0
  · rfl
def onlyC (d : D) : D := if chnB d = true then d else .non
def lineW (ws : List Str) (p2 p3 : Str) : D := match ws with
  | [a, f, b] => if f = "from" then .tup [figD a, figD b, .tup (if p2 = "" then [] else (Txt.split p3 cmS).map stageD)] else .non
  | _ => .non
theorem lineW_f {a f b p2 p3 : Str} (hf : ¬ f = "from") : lineW [a, f, b] p2 p3 = .non := by
  show (if f = ("from" : Str) then _ else D.non) = _
  rw [if_neg hf]
theorem lineW_0 {a f b p2 p3 : Str} (hf : f = "from") (h2 : p2 = "") : lineW [a, f, b] p2 p3 = .tup [figD a, figD b, .tup []] := by
  show (if f = ("from" : Str) then D.tup [figD a, figD b, .tup (if p2 = ("" : Str) then [] else _)] else D.non) = _
  rw [if_pos hf, if_pos h2]
theorem lineW_s {a f b p2 p3 : Str} (hf : f = "from") (h2 : ¬ p2 = "") : lineW [a, f, b] p2 p3 = .tup [figD a, figD b, .tup ((Txt.split p3 cmS).map stageD)] := by
  show (if f = ("from" : Str) then D.tup [figD a, figD b, .tup (if p2 = ("" : Str) then [] else _)] else D.non) = _
  rw [if_pos hf, if_neg h2]
theorem lineD_eq (x : Str) : lineD x = onlyC (lineW (Txt.split (Txt.partition x clS).1 spS) (Txt.partition x clS).2.1 (Txt.partition x clS).2.2) := rfl
theorem onlyC_t {d : D} (h : chnB d = true) : onlyC d = d := if_pos h
theorem onlyC_f {d : D} (h : chnB d = false) : onlyC d = .non := if_neg (by rw [h]; exact fun z => nomatch z)
theorem vc_chain_in (ds S R) (h : sp_chain_in ds S R (fun _ _ => False)) : wf_chain_in sa_is_chain_of sp_number_in sp_stage_in (ENDS R) (env0 8 ds) S := by
  obtain ⟨x, rfl, hl, tx, q⟩ := h
  obtain ⟨l1, l2, l3⟩ := part_len x
  obtain ⟨x1, x2⟩ := part_tx tx
  rw [lineD_eq] at q
  ((try conv => whnf) <;> repeat ((first | (refine Ite.mt ?_ ?_; focus (first | rfl | (simp; done) | (simp; omega))) | (refine Ite.mf ?_ ?_; focus (first | rfl | (simp; done) | (simp; omega))) | (refine And.intro ?_ ?_; focus (first | rfl | decide | (simp; done) | (simp; omega) | omega))) <;> (try conv => whnf)))
  refine ⟨⟨by decide +kernel, by omega⟩, ?_⟩
  ((try conv => whnf) <;> repeat ((first | (refine Ite.mt ?_ ?_; focus (first | rfl | (simp; done) | (simp; omega))) | (refine Ite.mf ?_ ?_; focus (first | rfl | (simp; done) | (simp; omega))) | (refine And.intro ?_ ?_; focus (first | rfl | decide | (simp; done) | (simp; omega) | omega))) <;> (try conv => whnf)))
  generalize Txt.partition x (": " : Str) = pp at *
  obtain ⟨p1, p2, p3⟩ := pp
  have l1 : p1.length ≤ x.length := l1
  have l2 : p2.length ≤ 2 := l2
  have l3 : p3.length ≤ x.length := l3
  have x1 : Tx p1 := x1
  have x2 : Tx p3 := x2
  refine ⟨⟨by decide +kernel, by show p1.length + 2 ≤ _; omega⟩, ?_⟩
  dsimp only at q
  have px : ∀ q ∈ Txt.split p1 spS, Tx q := fun q hq => x1.piece hq
  have pl : ∀ q ∈ Txt.split p1 spS, q.length ≤ p1.length := fun q hq => piece_len hq
  generalize Txt.split p1 (" " : Str) = ws at *
  match ws, q, px, pl with
  | [], q, px, pl => ((try conv => whnf) <;> repeat ((first | (refine Ite.mt ?_ ?_; focus (first | rfl | (simp; done) | (simp; omega))) | (refine Ite.mf ?_ ?_; focus (first | rfl | (simp; done) | (simp; omega))) | (refine And.intro ?_ ?_; focus (first | rfl | decide | (simp; done) | (simp; omega) | omega))) <;> (try conv => whnf))); exact q
  | [a], q, px, pl => ((try conv => whnf) <;> repeat ((first | (refine Ite.mt ?_ ?_; focus (first | rfl | (simp; done) | (simp; omega))) | (refine Ite.mf ?_ ?_; focus (first | rfl | (simp; done) | (simp; omega))) | (refine And.intro ?_ ?_; focus (first | rfl | decide | (simp; done) | (simp; omega) | omega))) <;> (try conv => whnf))); exact q
  | [a, b], q, px, pl => ((try conv => whnf) <;> repeat ((first | (refine Ite.mt ?_ ?_; focus (first | rfl | (simp; done) | (simp; omega))) | (refine Ite.mf ?_ ?_; focus (first | rfl | (simp; done) | (simp; omega))) | (refine And.intro ?_ ?_; focus (first | rfl | decide | (simp; done) | (simp; omega) | omega))) <;> (try conv => whnf))); exact q
  | a :: b :: c :: e :: r, q, px, pl =>
    (conv => whnf)
    refine Ite.mt (by simp; omega) ?_
    ((try conv => whnf) <;> repeat ((first | (refine Ite.mt ?_ ?_; focus (first | rfl | (simp; done) | (simp; omega))) | (refine Ite.mf ?_ ?_; focus (first | rfl | (simp; done) | (simp; omega))) | (refine And.intro ?_ ?_; focus (first | rfl | decide | (simp; done) | (simp; omega) | omega))) <;> (try conv => whnf)))
    exact q
  | [a, f, b], q, px, pl =>
    have la := pl a (by simp)
    have lb := pl b (by simp)
    (conv => whnf)
    refine Ite.mf (by simp) ?_
    (conv => whnf)
    by_cases hf : f = "from"
    · refine Ite.mf (show (!decide (f = ("from" : Str))) = false by rw [decide_eq_true hf]; rfl) ?_
      (conv => whnf)
      by_cases h2 : p2 = ""
      · refine Ite.mf (show (!decide (p2 = ("" : Str))) = false by rw [decide_eq_true h2]; rfl) ?_
        rw [lineW_0 hf h2] at q
        ((try conv => whnf) <;> repeat ((first | (refine Ite.mt ?_ ?_; focus (first | rfl | (simp; done) | (simp; omega))) | (refine Ite.mf ?_ ?_; focus (first | rfl | (simp; done) | (simp; omega))) | (refine And.intro ?_ ?_; focus (first | rfl | decide | (simp; done) | (simp; omega) | omega))) <;> (try conv => whnf)))
        refine ⟨a, rfl, by omega, ?_⟩
        ((try conv => whnf) <;> repeat ((first | (refine Ite.mt ?_ ?_; focus (first | rfl | (simp; done) | (simp; omega))) | (refine Ite.mf ?_ ?_; focus (first | rfl | (simp; done) | (simp; omega))) | (refine And.intro ?_ ?_; focus (first | rfl | decide | (simp; done) | (simp; omega) | omega))) <;> (try conv => whnf)))
        refine ⟨b, rfl, by omega, ?_⟩
        ((try conv => whnf) <;> repeat ((first | (refine Ite.mt ?_ ?_; focus (first | rfl | (simp; done) | (simp; omega))) | (refine Ite.mf ?_ ?_; focus (first | rfl | (simp; done) | (simp; omega))) | (refine And.intro ?_ ?_; focus (first | rfl | decide | (simp; done) | (simp; omega) | omega))) <;> (try conv => whnf)))
        refine ⟨_, 2, rfl, datd_tupE (show (3 : Nat) ≤ 1000000 by decide) (fun d hd => ?_), ?_⟩
        · simp only [List.mem_cons, List.not_mem_nil, or_false] at hd
          rcases hd with rfl | rfl | rfl
          · exact datd_fig _ _
          · exact datd_fig _ _
          · rfl
        · (conv => whnf)
          cases hc : chnB (.tup [figD a, figD b, .tup []]) with
          | true =>
            rw [onlyC_t hc] at q
            refine Ite.mt rfl ?_
            ((try conv => whnf) <;> repeat ((first | (refine Ite.mt ?_ ?_; focus (first | rfl | (simp; done) | (simp; omega))) | (refine Ite.mf ?_ ?_; focus (first | rfl | (simp; done) | (simp; omega))) | (refine And.intro ?_ ?_; focus (first | rfl | decide | (simp; done) | (simp; omega) | omega))) <;> (try conv => whnf)))
            exact q
          | false =>
            rw [onlyC_f hc] at q
            refine Ite.mf rfl ?_
            ((try conv => whnf) <;> repeat ((first | (refine Ite.mt ?_ ?_; focus (first | rfl | (simp; done) | (simp; omega))) | (refine Ite.mf ?_ ?_; focus (first | rfl | (simp; done) | (simp; omega))) | (refine And.intro ?_ ?_; focus (first | rfl | decide | (simp; done) | (simp; omega) | omega))) <;> (try conv => whnf)))
            exact q
      · refine Ite.mt (show (!decide (p2 = ("" : Str))) = true by rw [decide_eq_false h2]; rfl) ?_
        rw [lineW_s hf h2] at q
        have sl : (Txt.split p3 cmS).length ≤ p3.length + 2 := PyProof.Rows.split_le p3 cmS
        have pl3 : ∀ q ∈ Txt.split p3 cmS, q.length ≤ p3.length := fun q hq => piece_len hq
        have px3 : ∀ q ∈ Txt.split p3 cmS, Tx q := fun q hq => x2.piece hq
        ((try conv => whnf) <;> repeat ((first | (refine Ite.mt ?_ ?_; focus (first | rfl | (simp; done) | (simp; omega))) | (refine Ite.mf ?_ ?_; focus (first | rfl | (simp; done) | (simp; omega))) | (refine And.intro ?_ ?_; focus (first | rfl | decide | (simp; done) | (simp; omega) | omega))) <;> (try conv => whnf)))
        refine ⟨⟨by decide +kernel, by show p3.length + 2 ≤ _; omega⟩, ?_⟩
        ((try conv => whnf) <;> repeat ((first | (refine Ite.mt ?_ ?_; focus (first | rfl | (simp; done) | (simp; omega))) | (refine Ite.mf ?_ ?_; focus (first | rfl | (simp; done) | (simp; omega))) | (refine And.intro ?_ ?_; focus (first | rfl | decide | (simp; done) | (simp; omega) | omega))) <;> (try conv => whnf)))
        refine ⟨⟨rfl, by rw [List.length_map]; show (Txt.split p3 cmS).length ≤ _; omega⟩, ?_⟩
        refine lcW_pureA D.str (fun w => some (stageD w)) _ _ (fun w' hw K acc hK => ?_) ?_
        · ((try conv => whnf) <;> repeat ((first | (refine Ite.mt ?_ ?_; focus (first | rfl | (simp; done) | (simp; omega))) | (refine Ite.mf ?_ ?_; focus (first | rfl | (simp; done) | (simp; omega))) | (refine And.intro ?_ ?_; focus (first | rfl | decide | (simp; done) | (simp; omega) | omega))) <;> (try conv => whnf)))
          refine ⟨w', rfl, by have := pl3 w' hw; omega, ?_⟩
          ((try conv => whnf) <;> repeat ((first | (refine Ite.mt ?_ ?_; focus (first | rfl | (simp; done) | (simp; omega))) | (refine Ite.mf ?_ ?_; focus (first | rfl | (simp; done) | (simp; omega))) | (refine And.intro ?_ ?_; focus (first | rfl | decide | (simp; done) | (simp; omega) | omega))) <;> (try conv => whnf)))
          exact hK
        rw [List.nil_append, List.filterMap_eq_map']
        ((try conv => whnf) <;> repeat ((first | (refine Ite.mt ?_ ?_; focus (first | rfl | (simp; done) | (simp; omega))) | (refine Ite.mf ?_ ?_; focus (first | rfl | (simp; done) | (simp; omega))) | (refine And.intro ?_ ?_; focus (first | rfl | decide | (simp; done) | (simp; omega) | omega))) <;> (try conv => whnf)))
        refine ⟨a, rfl, by omega, ?_⟩
        ((try conv => whnf) <;> repeat ((first | (refine Ite.mt ?_ ?_; focus (first | rfl | (simp; done) | (simp; omega))) | (refine Ite.mf ?_ ?_; focus (first | rfl | (simp; done) | (simp; omega))) | (refine And.intro ?_ ?_; focus (first | rfl | decide | (simp; done) | (simp; omega) | omega))) <;> (try conv => whnf)))
        refine ⟨b, rfl, by omega, ?_⟩
        ((try conv => whnf) <;> repeat ((first | (refine Ite.mt ?_ ?_; focus (first | rfl | (simp; done) | (simp; omega))) | (refine Ite.mf ?_ ?_; focus (first | rfl | (simp; done) | (simp; omega))) | (refine And.intro ?_ ?_; focus (first | rfl | decide | (simp; done) | (simp; omega) | omega))) <;> (try conv => whnf)))
        refine ⟨_, 3, rfl, datd_tupE (show (3 : Nat) ≤ 1000000 by decide) (fun d hd => ?_), ?_⟩
        · simp only [List.mem_cons, List.not_mem_nil, or_false] at hd
          rcases hd with rfl | rfl | rfl
          · exact datd_fig _ _
          · exact datd_fig _ _
          · refine datd_tupE (by rw [List.length_map]; show (Txt.split p3 cmS).length ≤ _; omega) fun d hd => ?_
            obtain ⟨w', hw, rfl⟩ := List.mem_map.mp hd
            exact datd_stage (px3 w' hw) (by have := pl3 w' hw; omega)
        · (conv => whnf)
          cases hc : chnB (.tup [figD a, figD b, .tup ((Txt.split p3 cmS).map stageD)]) with
          | true =>
            rw [onlyC_t hc] at q
            refine Ite.mt rfl ?_
            ((try conv => whnf) <;> repeat ((first | (refine Ite.mt ?_ ?_; focus (first | rfl | (simp; done) | (simp; omega))) | (refine Ite.mf ?_ ?_; focus (first | rfl | (simp; done) | (simp; omega))) | (refine And.intro ?_ ?_; focus (first | rfl | decide | (simp; done) | (simp; omega) | omega))) <;> (try conv => whnf)))
            exact q
          | false =>
            rw [onlyC_f hc] at q
            refine Ite.mf rfl ?_
            ((try conv => whnf) <;> repeat ((first | (refine Ite.mt ?_ ?_; focus (first | rfl | (simp; done) | (simp; omega))) | (refine Ite.mf ?_ ?_; focus (first | rfl | (simp; done) | (simp; omega))) | (refine And.intro ?_ ?_; focus (first | rfl | decide | (simp; done) | (simp; omega) | omega))) <;> (try conv => whnf)))
            exact q
    · refine Ite.mt (show (!decide (f = ("from" : Str))) = true by rw [decide_eq_false hf]; rfl) ?_
      rw [lineW_f hf] at q
      ((try conv => whnf) <;> repeat ((first | (refine Ite.mt ?_ ?_; focus (first | rfl | (simp; done) | (simp; omega))) | (refine Ite.mf ?_ ?_; focus (first | rfl | (simp; done) | (simp; omega))) | (refine And.intro ?_ ?_; focus (first | rfl | decide | (simp; done) | (simp; omega) | omega))) <;> (try conv => whnf)))
      exact q
end VC

set_option Elab.async false
set_option linter.all false
set_option maxRecDepth 100000
set_option maxHeartbeats 4000000
/-! EI: read_chains. -/
namespace VC
open PySem PySem.Spec PyProof.Rows L2
def linesX (x : Str) : List Str := if x = "" then [] else Txt.split x nlS
def badAt : List Str → Nat → Option Nat
  | [], _ => none
  | l :: ls, k => if (lineD l).isNon = true then some k else badAt ls (k + 1)
def noTextE (k : Int) : XD := ⟨"InvalidText", [("line", .int k)]⟩
def isStrD : D → Bool
  | .str _ => true
  | _ => false
def spx_read_chains : FSpec := fun ds S R E => (∃ x : Str, ds = [.str x] ∧ x.length ≤ 10000 ∧ Tx x ∧ (badAt (linesX x) 0 = none → R (.val (.tup ((linesX x).map lineD))) S) ∧ ∀ k, badAt (linesX x) 0 = some k → E (noTextE ((k : Int) + 1)) S) ∨
  ∃ v : D, ds = [v] ∧ v.pl = true ∧ isStrD v = false ∧ E (noTextE 0) S
theorem mox_read_chains : MoF spx_read_chains := fun ds S R R' E i h => h.imp (fun ⟨x, a, b, c, d, e⟩ => ⟨x, a, b, c, fun k => i _ _ (d k), e⟩) id
theorem lines_ok {x : Str} (hl : x.length ≤ 10000) (tx : Tx x) : (linesX x).length ≤ 10002 ∧ ∀ l ∈ linesX x, l.length ≤ 10000 ∧ Tx l := by
  unfold linesX
  split
  · exact ⟨by simp, fun l h => by cases h⟩
  · refine ⟨Nat.le_trans (PyProof.Rows.split_le x nlS) (by omega), fun l h => ⟨Nat.le_trans (piece_len h) hl, tx.piece h⟩⟩
theorem forW_en {G : WG} {W : WS} {D0 : WEnds} (J : Nat → List Str → VEnv → Sto → Prop) (fin : ∀ k e s, J k [] e s → D0.nx e s)
    (step : ∀ k l ls e s (K : WEnd), J k (l :: ls) e s → (∀ e s, J (k + 1) ls e s → K e s) → G (.tup [.int (k : Int), .str l]) e s fun e s => W { D0 with nx := K, ct := K, bk := D0.nx } e s) : ∀ (ls : List Str) (k : Nat) (e : VEnv) (s : Sto), J k ls e s → forW G W D0 (enumD k (ls.map D.str)) e s
  | [], k, e, s, h => fin k e s h
  | l :: ls, k, e, s, h => step k l ls e s _ h fun e s h => forW_en J fin step ls (k + 1) e s h
theorem lineD_cases (x : Str) : lineD x = .non ∨ ∃ ds, lineD x = .tup ds := by
  rw [lineD_eq]
  generalize lineW (Txt.split (Txt.partition x clS).1 spS) (Txt.partition x clS).2.1 (Txt.partition x clS).2.2 = d
  cases hc : chnB d with
  | true =>
    rw [onlyC_t hc]
    obtain ⟨t, s, ps, e⟩ := chnB_inv hc
    exact .inr ⟨_, e⟩
  | false => exact .inl (onlyC_f hc)
theorem vcx_read_chains (ds S R E) (h : spx_read_chains ds S R E) : wfx_read_chains sp_chain_in E (ENDS R) (env0 5 ds) S := by
  rcases h with ⟨x, rfl, hl, tx, h1, h2⟩ | ⟨v, rfl, hv, hs, q⟩
  · obtain ⟨ll, lk⟩ := lines_ok hl tx
    have key : ∀ (items : List D) (F : List D → VEnv → Sto → Prop), items = (linesX x).map D.str → (∀ e, F (enumD 0 ((linesX x).map D.str)) e S) → True := fun _ _ _ _ => trivial
    ((try conv => whnf) <;> repeat ((first | (refine Ite.mt ?_ ?_; focus (first | rfl | (simp; done) | (simp; omega))) | (refine Ite.mf ?_ ?_; focus (first | rfl | (simp; done) | (simp; omega))) | (refine And.intro ?_ ?_; focus (first | rfl | decide | (simp; done) | (simp; omega) | omega))) <;> (try conv => whnf)))
    refine Ite.intro (fun hc => ?_) (fun hc => ?_)
    · have hx : ¬ x = "" := by simpa using hc
      have el : linesX x = Txt.split x nlS := if_neg hx
      ((try conv => whnf) <;> repeat ((first | (refine Ite.mt ?_ ?_; focus (first | rfl | (simp; done) | (simp; omega))) | (refine Ite.mf ?_ ?_; focus (first | rfl | (simp; done) | (simp; omega))) | (refine And.intro ?_ ?_; focus (first | rfl | decide | (simp; done) | (simp; omega) | omega))) <;> (try conv => whnf)))
      refine ⟨⟨by decide +kernel, by omega⟩, ?_⟩
      ((try conv => whnf) <;> repeat ((first | (refine Ite.mt ?_ ?_; focus (first | rfl | (simp; done) | (simp; omega))) | (refine Ite.mf ?_ ?_; focus (first | rfl | (simp; done) | (simp; omega))) | (refine And.intro ?_ ?_; focus (first | rfl | decide | (simp; done) | (simp; omega) | omega))) <;> (try conv => whnf)))
      refine forW_en (fun k ls e s => ∃ (done : List Str) (t2 t3 t4 : Option VC.T), e = [some (.val (.str x)), some (.val (.tup (done.map lineD))), t2, t3, t4] ∧ s = S ∧ done ++ ls = linesX x ∧ done.length = k ∧ badAt (linesX x) 0 = badAt ls k) ?_ ?_ _ _ _ _ ⟨[], _, _, _, rfl, rfl, el.symm, rfl, by rw [el]⟩
      · rintro k e s ⟨done, t2, t3, t4, rfl, rfl, hd, hk, hb⟩
        rw [List.append_nil] at hd
        have q := h1 hb
        rw [← hd] at q
        ((try conv => whnf) <;> repeat ((first | (refine Ite.mt ?_ ?_; focus (first | rfl | (simp; done) | (simp; omega))) | (refine Ite.mf ?_ ?_; focus (first | rfl | (simp; done) | (simp; omega))) | (refine And.intro ?_ ?_; focus (first | rfl | decide | (simp; done) | (simp; omega) | omega))) <;> (try conv => whnf)))
        exact q
      · rintro k l ls e s K ⟨done, t2, t3, t4, rfl, rfl, hd, hk, hb⟩ hK
        have hm : l ∈ linesX x := by rw [← hd]; simp
        obtain ⟨a1, a2⟩ := lk l hm
        have dl : (linesX x).length = done.length + (ls.length + 1) := by rw [← hd, List.length_append]; rfl
        ((try conv => whnf) <;> repeat ((first | (refine Ite.mt ?_ ?_; focus (first | rfl | (simp; done) | (simp; omega))) | (refine Ite.mf ?_ ?_; focus (first | rfl | (simp; done) | (simp; omega))) | (refine And.intro ?_ ?_; focus (first | rfl | decide | (simp; done) | (simp; omega) | omega))) <;> (try conv => whnf)))
        refine ⟨l, rfl, a1, a2, ?_⟩
        have nb : badAt (l :: ls) k = if (lineD l).isNon = true then some k else badAt ls (k + 1) := rfl
        rw [nb] at hb
        rcases lineD_cases l with e | ⟨ds, e⟩
        · rw [e]
          rw [e] at hb
          have q := h2 k hb
          ((try conv => whnf) <;> repeat ((first | (refine Ite.mt ?_ ?_; focus (first | rfl | (simp; done) | (simp; omega))) | (refine Ite.mf ?_ ?_; focus (first | rfl | (simp; done) | (simp; omega))) | (refine And.intro ?_ ?_; focus (first | rfl | decide | (simp; done) | (simp; omega) | omega))) <;> (try conv => whnf)))
          exact ⟨_, rfl, q⟩
        · rw [e]
          rw [e] at hb
          ((try conv => whnf) <;> repeat ((first | (refine Ite.mt ?_ ?_; focus (first | rfl | (simp; done) | (simp; omega))) | (refine Ite.mf ?_ ?_; focus (first | rfl | (simp; done) | (simp; omega))) | (refine And.intro ?_ ?_; focus (first | rfl | decide | (simp; done) | (simp; omega) | omega))) <;> (try conv => whnf)))
          refine ⟨th40 (by rw [List.length_map]; show done.length + 1 ≤ _; omega), ?_⟩
          ((try conv => whnf) <;> repeat ((first | (refine Ite.mt ?_ ?_; focus (first | rfl | (simp; done) | (simp; omega))) | (refine Ite.mf ?_ ?_; focus (first | rfl | (simp; done) | (simp; omega))) | (refine And.intro ?_ ?_; focus (first | rfl | decide | (simp; done) | (simp; omega) | omega))) <;> (try conv => whnf)))
          exact hK _ _ ⟨done ++ [l], _, _, _, by rw [List.map_append, List.map_cons, List.map_nil, e]; rfl, rfl, by rw [List.append_assoc]; exact hd, by rw [List.length_append, hk]; rfl, hb⟩
    · have hx : x = "" := by simpa using hc
      have el : linesX x = [] := if_pos hx
      rw [el] at h1
      ((try conv => whnf) <;> repeat ((first | (refine Ite.mt ?_ ?_; focus (first | rfl | (simp; done) | (simp; omega))) | (refine Ite.mf ?_ ?_; focus (first | rfl | (simp; done) | (simp; omega))) | (refine And.intro ?_ ?_; focus (first | rfl | decide | (simp; done) | (simp; omega) | omega))) <;> (try conv => whnf)))
      exact h1 rfl
  · have nstr : wfx_read_chains sp_chain_in E (ENDS R) (env0 5 [v]) S := by
      cases v with
      | str _ => cases hs
      | dct _ _ => cases hv
      | ref _ => cases hv
      | fn _ => cases hv
      | kst _ => cases hv
      | opq => cases hv
      | _ => ((try conv => whnf) <;> repeat ((first | (refine Ite.mt ?_ ?_; focus (first | rfl | (simp; done) | (simp; omega))) | (refine Ite.mf ?_ ?_; focus (first | rfl | (simp; done) | (simp; omega))) | (refine And.intro ?_ ?_; focus (first | rfl | decide | (simp; done) | (simp; omega) | omega))) <;> (try conv => whnf))); exact ⟨_, rfl, q⟩
    exact nstr
end VC

set_option Elab.async false
set_option linter.all false
set_option maxRecDepth 100000
set_option maxHeartbeats 4000000
/-! EJ: _law_due, _law_told, _law_text. -/
namespace VC
open PySem PySem.Spec PyProof.Rows L2
def dueD (x : Str) : D := match badAt (linesX x) 0 with
  | some k => .int ((k : Int) + 1)
  | none => .tup ((linesX x).map lineD)
def sp__law_read : FSpec := fun ds S R _ => ∃ x : Str, ds = [.str x] ∧ x.length ≤ 10000 ∧ Tx x ∧ R (.val (lineD x)) S
theorem mo__law_read : MoF sp__law_read := by (intro ds S R R' E i; repeat (first | exact i _ _ | (refine Exists.imp fun _ => ?_) | (refine And.imp_right ?_) | (intro f x; refine (show _ → _ from ?_) (f x))))
def sp__law_due : FSpec := fun ds S R _ => ∃ x : Str, ds = [.str x] ∧ x.length ≤ 10000 ∧ Tx x ∧ R (.val (dueD x)) S
theorem mo__law_due : MoF sp__law_due := by (intro ds S R R' E i; repeat (first | exact i _ _ | (refine Exists.imp fun _ => ?_) | (refine And.imp_right ?_) | (intro f x; refine (show _ → _ from ?_) (f x))))
theorem vc__law_due (ds S R) (h : sp__law_due ds S R (fun _ _ => False)) : wf_law_due sp__law_read (ENDS R) (env0 5 ds) S := by
  obtain ⟨x, rfl, hl, tx, q⟩ := h
  obtain ⟨ll, lk⟩ := lines_ok hl tx
  have h1 : badAt (linesX x) 0 = none → R (.val (.tup ((linesX x).map lineD))) S := fun h => by
    have e : dueD x = .tup ((linesX x).map lineD) := by unfold dueD; rw [h]
    rw [← e]; exact q
  have h2 : ∀ k, badAt (linesX x) 0 = some k → R (.val (.int ((k : Int) + 1))) S := fun k h => by
    have e : dueD x = .int ((k : Int) + 1) := by unfold dueD; rw [h]
    rw [← e]; exact q
  ((try conv => whnf) <;> repeat ((first | (refine Ite.mt ?_ ?_; focus (first | rfl | (simp; done) | (simp; omega))) | (refine Ite.mf ?_ ?_; focus (first | rfl | (simp; done) | (simp; omega))) | (refine And.intro ?_ ?_; focus (first | rfl | decide | (simp; done) | (simp; omega) | omega))) <;> (try conv => whnf)))
  refine Ite.intro (fun hc => ?_) (fun hc => ?_)
  · have hx : ¬ x = "" := by simpa using hc
    have el : linesX x = Txt.split x nlS := if_neg hx
    ((try conv => whnf) <;> repeat ((first | (refine Ite.mt ?_ ?_; focus (first | rfl | (simp; done) | (simp; omega))) | (refine Ite.mf ?_ ?_; focus (first | rfl | (simp; done) | (simp; omega))) | (refine And.intro ?_ ?_; focus (first | rfl | decide | (simp; done) | (simp; omega) | omega))) <;> (try conv => whnf)))
    refine ⟨⟨by decide +kernel, by omega⟩, ?_⟩
    ((try conv => whnf) <;> repeat ((first | (refine Ite.mt ?_ ?_; focus (first | rfl | (simp; done) | (simp; omega))) | (refine Ite.mf ?_ ?_; focus (first | rfl | (simp; done) | (simp; omega))) | (refine And.intro ?_ ?_; focus (first | rfl | decide | (simp; done) | (simp; omega) | omega))) <;> (try conv => whnf)))
    refine forW_en (fun k ls e s => ∃ (done : List Str) (t2 t3 t4 : Option VC.T), e = [some (.val (.str x)), some (.val (.tup (done.map lineD))), t2, t3, t4] ∧ s = S ∧ done ++ ls = linesX x ∧ done.length = k ∧ badAt (linesX x) 0 = badAt ls k) ?_ ?_ _ _ _ _ ⟨[], _, _, _, rfl, rfl, el.symm, rfl, by rw [el]⟩
    · rintro k e s ⟨done, t2, t3, t4, rfl, rfl, hd, hk, hb⟩
      rw [List.append_nil] at hd
      have q := h1 hb
      rw [← hd] at q
      ((try conv => whnf) <;> repeat ((first | (refine Ite.mt ?_ ?_; focus (first | rfl | (simp; done) | (simp; omega))) | (refine Ite.mf ?_ ?_; focus (first | rfl | (simp; done) | (simp; omega))) | (refine And.intro ?_ ?_; focus (first | rfl | decide | (simp; done) | (simp; omega) | omega))) <;> (try conv => whnf)))
      exact q
    · rintro k l ls e s K ⟨done, t2, t3, t4, rfl, rfl, hd, hk, hb⟩ hK
      have hm : l ∈ linesX x := by rw [← hd]; simp
      obtain ⟨a1, a2⟩ := lk l hm
      have dl : (linesX x).length = done.length + (ls.length + 1) := by rw [← hd, List.length_append]; rfl
      ((try conv => whnf) <;> repeat ((first | (refine Ite.mt ?_ ?_; focus (first | rfl | (simp; done) | (simp; omega))) | (refine Ite.mf ?_ ?_; focus (first | rfl | (simp; done) | (simp; omega))) | (refine And.intro ?_ ?_; focus (first | rfl | decide | (simp; done) | (simp; omega) | omega))) <;> (try conv => whnf)))
      refine ⟨l, rfl, a1, a2, ?_⟩
      have nb : badAt (l :: ls) k = if (lineD l).isNon = true then some k else badAt ls (k + 1) := rfl
      rw [nb] at hb
      rcases lineD_cases l with e | ⟨ds, e⟩
      · rw [e]
        rw [e] at hb
        have q := h2 k hb
        ((try conv => whnf) <;> repeat ((first | (refine Ite.mt ?_ ?_; focus (first | rfl | (simp; done) | (simp; omega))) | (refine Ite.mf ?_ ?_; focus (first | rfl | (simp; done) | (simp; omega))) | (refine And.intro ?_ ?_; focus (first | rfl | decide | (simp; done) | (simp; omega) | omega))) <;> (try conv => whnf)))
        exact q
      · rw [e]
        rw [e] at hb
        ((try conv => whnf) <;> repeat ((first | (refine Ite.mt ?_ ?_; focus (first | rfl | (simp; done) | (simp; omega))) | (refine Ite.mf ?_ ?_; focus (first | rfl | (simp; done) | (simp; omega))) | (refine And.intro ?_ ?_; focus (first | rfl | decide | (simp; done) | (simp; omega) | omega))) <;> (try conv => whnf)))
        refine ⟨th40 (by rw [List.length_map]; show done.length + 1 ≤ _; omega), ?_⟩
        ((try conv => whnf) <;> repeat ((first | (refine Ite.mt ?_ ?_; focus (first | rfl | (simp; done) | (simp; omega))) | (refine Ite.mf ?_ ?_; focus (first | rfl | (simp; done) | (simp; omega))) | (refine And.intro ?_ ?_; focus (first | rfl | decide | (simp; done) | (simp; omega) | omega))) <;> (try conv => whnf)))
        exact hK _ _ ⟨done ++ [l], _, _, _, by rw [List.map_append, List.map_cons, List.map_nil, e]; rfl, rfl, by rw [List.append_assoc]; exact hd, by rw [List.length_append, hk]; rfl, hb⟩
  · have hx : x = "" := by simpa using hc
    have el : linesX x = [] := if_pos hx
    rw [el] at h1
    ((try conv => whnf) <;> repeat ((first | (refine Ite.mt ?_ ?_; focus (first | rfl | (simp; done) | (simp; omega))) | (refine Ite.mf ?_ ?_; focus (first | rfl | (simp; done) | (simp; omega))) | (refine And.intro ?_ ?_; focus (first | rfl | decide | (simp; done) | (simp; omega) | omega))) <;> (try conv => whnf)))
    exact h1 rfl
def sp__law_told : FSpec := fun ds S R _ => (∃ x : Str, ds = [.str x] ∧ x.length ≤ 10000 ∧ Tx x ∧ R (.val (dueD x)) S) ∨ ∃ v : D, ds = [v] ∧ v.pl = true ∧ isStrD v = false ∧ R (.val (.int 0)) S
theorem mo__law_told : MoF sp__law_told := fun ds S R R' E i h => h.imp (fun ⟨x, a, b, c, d⟩ => ⟨x, a, b, c, i _ _ d⟩) fun ⟨v, a, b, c, d⟩ => ⟨v, a, b, c, i _ _ d⟩
theorem vc__law_told (ds S R) (h : sp__law_told ds S R (fun _ _ => False)) : wf_law_told spx_read_chains (ENDS R) (env0 2 ds) S := by
  rcases h with ⟨x, rfl, hl, tx, q⟩ | ⟨v, rfl, hv, hs, q⟩
  · refine ⟨fun y S' => y.cls = "InvalidText" ∧ ∃ d, y.fs = [(("line" : Str), d)] ∧ R (.val d) S', ENDS R, ?_, LeE.refl _, fun y S' h => h⟩
    ((try conv => whnf) <;> repeat ((first | (refine Ite.mt ?_ ?_; focus (first | rfl | (simp; done) | (simp; omega))) | (refine Ite.mf ?_ ?_; focus (first | rfl | (simp; done) | (simp; omega))) | (refine And.intro ?_ ?_; focus (first | rfl | decide | (simp; done) | (simp; omega) | omega))) <;> (try conv => whnf)))
    refine .inl ⟨x, rfl, hl, tx, fun h => ?_, fun k h => ⟨rfl, _, rfl, ?_⟩⟩
    · have e : dueD x = .tup ((linesX x).map lineD) := by unfold dueD; rw [h]
      rw [e] at q
      exact q
    · have e : dueD x = .int ((k : Int) + 1) := by unfold dueD; rw [h]
      rw [e] at q
      exact q
  · refine ⟨fun y S' => y.cls = "InvalidText" ∧ ∃ d, y.fs = [(("line" : Str), d)] ∧ R (.val d) S', ENDS R, ?_, LeE.refl _, fun y S' h => h⟩
    have go : wRet (wCallX 1 spx_read_chains (fun y S' => y.cls = "InvalidText" ∧ ∃ d, y.fs = [(("line" : Str), d)] ∧ R (.val d) S') (wAC (wV 0) wA0)) (ENDS R) (env0 2 [v]) S := by
      ((try conv => whnf) <;> repeat ((first | (refine Ite.mt ?_ ?_; focus (first | rfl | (simp; done) | (simp; omega))) | (refine Ite.mf ?_ ?_; focus (first | rfl | (simp; done) | (simp; omega))) | (refine And.intro ?_ ?_; focus (first | rfl | decide | (simp; done) | (simp; omega) | omega))) <;> (try conv => whnf)))
      exact .inr ⟨v, rfl, hv, hs, rfl, _, rfl, q⟩
    exact go
theorem tx_app {a b : Str} (ha : Tx a) (hb : Tx b) : Tx (a ++ b) := fun c hc => by
  rw [cs_app] at hc
  rcases List.mem_append.mp hc with h | h
  · exact ha c h
  · exact hb c h
theorem tx_join {y : Str} (hy : Tx y) : ∀ {l : List Str}, (∀ x ∈ l, Tx x) → Tx (Str.join y l)
  | [], _ => fun c hc => by cases hc
  | [a], h => h a (List.mem_singleton.mpr rfl)
  | a :: b :: l, h => tx_app (tx_app (h a (List.mem_cons_self ..)) hy) (tx_join hy fun x hx => h x (List.mem_cons_of_mem _ hx))
theorem tx_dig {i : Int} (h0 : 0 ≤ i) (h9 : i ≤ 9) : Tx (digS i) := fun c hc => by
  rw [dig_cs h0 h9, List.mem_singleton] at hc; omega
theorem tx_small {x : Str} (h : (cs x).all (· < 200) = true) : Tx x := fun c hc => by
  have := of_decide_eq_true (List.all_eq_true.mp h c hc); omega
theorem tx_stg {t : Int} {s : Stg} (ok : s.Ok t) (t5 : t ≤ 5) : Tx (stgX s) := by
  have three : ∀ (k : Str) (a b : Int), Tx k → 0 ≤ a → a ≤ 5 → 0 ≤ b → b ≤ 5 → Tx (Str.join spS [k, digS a, digS b]) := fun k a b hk a0 a5 b0 b5 => tx_join (tx_small (by decide +kernel)) fun x hx => by
    simp only [List.mem_cons, List.not_mem_nil, or_false] at hx
    rcases hx with rfl | rfl | rfl
    · exact hk
    · exact tx_dig a0 (by omega)
    · exact tx_dig b0 (by omega)
  cases s with
  | slew u d => obtain ⟨h1, h2, h3, h4⟩ := ok; exact three "slew" u d (tx_small (by decide +kernel)) h1 h2 h3 h4
  | clip l h' => obtain ⟨h1, h2, h3, h4⟩ := ok; exact three "clip" l h' (tx_small (by decide +kernel)) h1 (by omega) (by omega) (by omega)
  | gate l h' => obtain ⟨h1, h2, h3, h4⟩ := ok; exact three "gate" l h' (tx_small (by decide +kernel)) h1 (by omega) (by omega) (by omega)
  | hold w =>
    obtain ⟨h1, h2⟩ := ok
    exact tx_join (tx_small (by decide +kernel)) fun x hx => by
      simp only [List.mem_cons, List.not_mem_nil, or_false] at hx
      rcases hx with rfl | rfl
      · exact tx_small (by decide +kernel)
      · exact tx_dig (by omega) (by omega)
theorem tx_hd {t a : Int} (t0 : 0 ≤ t) (t9 : t ≤ 9) (a0 : 0 ≤ a) (a9 : a ≤ 9) : Tx (hdX t a) := tx_join (tx_small (by decide +kernel)) fun x hx => by
  simp only [List.mem_cons, List.not_mem_nil, or_false] at hx
  rcases hx with rfl | rfl | rfl
  · exact tx_dig t0 t9
  · exact tx_small (by decide +kernel)
  · exact tx_dig a0 a9
theorem datd_lstS {l : List Str} (hl : l.length ≤ 1000000) (h : ∀ x ∈ l, Tx x) : datd (.lst (l.map D.str)) 2 = true := by
  simp only [datd, Bool.and_eq_true, decide_eq_true_eq]
  exact ⟨by rw [List.length_map]; exact hl, datd_allD fun d hd => by
    obtain ⟨x, hx, rfl⟩ := List.mem_map.mp hd
    exact datd_str (h x hx) 1⟩
theorem app_nil (x : Str) : x ++ ("" : Str) = x := cs_ext (by rw [cs_app, show cs ("" : Str) = [] by decide +kernel, List.append_nil])
def sp__law_text : FSpec := fun ds S R _ => ∃ c : Chn, ds = [c.d] ∧ c.Ok ∧ R (.val (.str (chX c))) S
theorem mo__law_text : MoF sp__law_text := by (intro ds S R R' E i; repeat (first | exact i _ _ | (refine Exists.imp fun _ => ?_) | (refine And.imp_right ?_) | (intro f x; refine (show _ → _ from ?_) (f x))))
theorem vc__law_text (ds S R) (h : sp__law_text ds S R (fun _ _ => False)) : wf_law_text (ENDS R) (env0 4 ds) S := by
  obtain ⟨c, rfl, ok, q⟩ := h
  have t1 := ok.t1
  have t5 := ok.t5
  have s0 := ok.s0
  have s1 := ok.st
  have lt := log9 (show 0 ≤ c.top by omega) (show c.top ≤ 9 by omega)
  have ls := log9 (show 0 ≤ c.start by omega) (show c.start ≤ 9 by omega)
  have d1 := dig_len (show 0 ≤ c.top by omega) (show c.top ≤ 9 by omega)
  have d2 := dig_len (show 0 ≤ c.start by omega) (show c.start ≤ 9 by omega)
  unfold digS at d1 d2
  have ln := ok.len
  ((try conv => whnf) <;> repeat ((first | (refine Ite.mt ?_ ?_; focus (first | rfl | (simp; done) | (simp; omega))) | (refine Ite.mf ?_ ?_; focus (first | rfl | (simp; done) | (simp; omega))) | (refine And.intro ?_ ?_; focus (first | rfl | decide | (simp; done) | (simp; omega) | omega))) <;> (try conv => whnf)))
  refine ⟨⟨rfl, by rw [List.length_map]; omega⟩, ?_⟩
  refine lcW_pureA Stg.d (fun s => some (.str (stgX s))) _ _ (fun s hs K acc hK => ?_) ?_
  · have so := ok.ok s hs
    have fin : ∀ k a b, a.natAbs.log2 < 1920 → b.natAbs.log2 < 1920 → k.length = 4 → (digS a).length = 1 → (digS b).length = 1 → ([k, digS a, digS b].map (·.length)).sum + [k, digS a, digS b].length * (" " : Str).length ≤ 16777216 := fun k a b _ _ h1 h2 h3 => by
      simp only [List.map_cons, List.map_nil, List.sum_cons, List.sum_nil, List.length_cons, List.length_nil, h1, h2, h3, show (" " : Str).length = 1 by decide +kernel]
      decide
    cases s with
    | slew u d =>
      obtain ⟨h1, h2, h3, h4⟩ := so
      have lu := log9 h1 (show u ≤ 9 by omega)
      have ld := log9 h3 (show d ≤ 9 by omega)
      ((try conv => whnf) <;> repeat ((first | (refine Ite.mt ?_ ?_; focus (first | rfl | (simp; done) | (simp; omega))) | (refine Ite.mf ?_ ?_; focus (first | rfl | (simp; done) | (simp; omega))) | (refine And.intro ?_ ?_; focus (first | rfl | decide | (simp; done) | (simp; omega) | omega))) <;> (try conv => whnf)))
      refine ⟨⟨rfl, (show (2 : Nat) ≤ 1000000 by decide)⟩, ?_⟩
      ((try conv => whnf) <;> repeat ((first | (refine Ite.mt ?_ ?_; focus (first | rfl | (simp; done) | (simp; omega))) | (refine Ite.mf ?_ ?_; focus (first | rfl | (simp; done) | (simp; omega))) | (refine And.intro ?_ ?_; focus (first | rfl | decide | (simp; done) | (simp; omega) | omega))) <;> (try conv => whnf)))
      refine ⟨(show (3 : Nat) ≤ sizeLine by decide), ?_⟩
      ((try conv => whnf) <;> repeat ((first | (refine Ite.mt ?_ ?_; focus (first | rfl | (simp; done) | (simp; omega))) | (refine Ite.mf ?_ ?_; focus (first | rfl | (simp; done) | (simp; omega))) | (refine And.intro ?_ ?_; focus (first | rfl | decide | (simp; done) | (simp; omega) | omega))) <;> (try conv => whnf)))
      refine ⟨["slew", digS u, digS d], rfl, fin _ u d lu ld (by decide +kernel) (dig_len h1 (by omega)) (dig_len h3 (by omega)), ?_⟩
      rw [join_eq]
      ((try conv => whnf) <;> repeat ((first | (refine Ite.mt ?_ ?_; focus (first | rfl | (simp; done) | (simp; omega))) | (refine Ite.mf ?_ ?_; focus (first | rfl | (simp; done) | (simp; omega))) | (refine And.intro ?_ ?_; focus (first | rfl | decide | (simp; done) | (simp; omega) | omega))) <;> (try conv => whnf)))
      exact hK
    | clip l h' =>
      obtain ⟨h1, h2, h3, h4⟩ := so
      have lu := log9 h1 (show l ≤ 9 by omega)
      have ld := log9 (show 0 ≤ h' by omega) (show h' ≤ 9 by omega)
      ((try conv => whnf) <;> repeat ((first | (refine Ite.mt ?_ ?_; focus (first | rfl | (simp; done) | (simp; omega))) | (refine Ite.mf ?_ ?_; focus (first | rfl | (simp; done) | (simp; omega))) | (refine And.intro ?_ ?_; focus (first | rfl | decide | (simp; done) | (simp; omega) | omega))) <;> (try conv => whnf)))
      refine ⟨⟨rfl, (show (2 : Nat) ≤ 1000000 by decide)⟩, ?_⟩
      ((try conv => whnf) <;> repeat ((first | (refine Ite.mt ?_ ?_; focus (first | rfl | (simp; done) | (simp; omega))) | (refine Ite.mf ?_ ?_; focus (first | rfl | (simp; done) | (simp; omega))) | (refine And.intro ?_ ?_; focus (first | rfl | decide | (simp; done) | (simp; omega) | omega))) <;> (try conv => whnf)))
      refine ⟨(show (3 : Nat) ≤ sizeLine by decide), ?_⟩
      ((try conv => whnf) <;> repeat ((first | (refine Ite.mt ?_ ?_; focus (first | rfl | (simp; done) | (simp; omega))) | (refine Ite.mf ?_ ?_; focus (first | rfl | (simp; done) | (simp; omega))) | (refine And.intro ?_ ?_; focus (first | rfl | decide | (simp; done) | (simp; omega) | omega))) <;> (try conv => whnf)))
      refine ⟨["clip", digS l, digS h'], rfl, fin _ l h' lu ld (by decide +kernel) (dig_len h1 (by omega)) (dig_len (by omega) (by omega)), ?_⟩
      rw [join_eq]
      ((try conv => whnf) <;> repeat ((first | (refine Ite.mt ?_ ?_; focus (first | rfl | (simp; done) | (simp; omega))) | (refine Ite.mf ?_ ?_; focus (first | rfl | (simp; done) | (simp; omega))) | (refine And.intro ?_ ?_; focus (first | rfl | decide | (simp; done) | (simp; omega) | omega))) <;> (try conv => whnf)))
      exact hK
    | gate l h' =>
      obtain ⟨h1, h2, h3, h4⟩ := so
      have lu := log9 h1 (show l ≤ 9 by omega)
      have ld := log9 (show 0 ≤ h' by omega) (show h' ≤ 9 by omega)
      ((try conv => whnf) <;> repeat ((first | (refine Ite.mt ?_ ?_; focus (first | rfl | (simp; done) | (simp; omega))) | (refine Ite.mf ?_ ?_; focus (first | rfl | (simp; done) | (simp; omega))) | (refine And.intro ?_ ?_; focus (first | rfl | decide | (simp; done) | (simp; omega) | omega))) <;> (try conv => whnf)))
      refine ⟨⟨rfl, (show (2 : Nat) ≤ 1000000 by decide)⟩, ?_⟩
      ((try conv => whnf) <;> repeat ((first | (refine Ite.mt ?_ ?_; focus (first | rfl | (simp; done) | (simp; omega))) | (refine Ite.mf ?_ ?_; focus (first | rfl | (simp; done) | (simp; omega))) | (refine And.intro ?_ ?_; focus (first | rfl | decide | (simp; done) | (simp; omega) | omega))) <;> (try conv => whnf)))
      refine ⟨(show (3 : Nat) ≤ sizeLine by decide), ?_⟩
      ((try conv => whnf) <;> repeat ((first | (refine Ite.mt ?_ ?_; focus (first | rfl | (simp; done) | (simp; omega))) | (refine Ite.mf ?_ ?_; focus (first | rfl | (simp; done) | (simp; omega))) | (refine And.intro ?_ ?_; focus (first | rfl | decide | (simp; done) | (simp; omega) | omega))) <;> (try conv => whnf)))
      refine ⟨["gate", digS l, digS h'], rfl, fin _ l h' lu ld (by decide +kernel) (dig_len h1 (by omega)) (dig_len (by omega) (by omega)), ?_⟩
      rw [join_eq]
      ((try conv => whnf) <;> repeat ((first | (refine Ite.mt ?_ ?_; focus (first | rfl | (simp; done) | (simp; omega))) | (refine Ite.mf ?_ ?_; focus (first | rfl | (simp; done) | (simp; omega))) | (refine And.intro ?_ ?_; focus (first | rfl | decide | (simp; done) | (simp; omega) | omega))) <;> (try conv => whnf)))
      exact hK
    | hold w =>
      obtain ⟨h1, h2⟩ := so
      have lu := log9 (show 0 ≤ w by omega) (show w ≤ 9 by omega)
      ((try conv => whnf) <;> repeat ((first | (refine Ite.mt ?_ ?_; focus (first | rfl | (simp; done) | (simp; omega))) | (refine Ite.mf ?_ ?_; focus (first | rfl | (simp; done) | (simp; omega))) | (refine And.intro ?_ ?_; focus (first | rfl | decide | (simp; done) | (simp; omega) | omega))) <;> (try conv => whnf)))
      refine ⟨⟨rfl, (show (1 : Nat) ≤ 1000000 by decide)⟩, ?_⟩
      ((try conv => whnf) <;> repeat ((first | (refine Ite.mt ?_ ?_; focus (first | rfl | (simp; done) | (simp; omega))) | (refine Ite.mf ?_ ?_; focus (first | rfl | (simp; done) | (simp; omega))) | (refine And.intro ?_ ?_; focus (first | rfl | decide | (simp; done) | (simp; omega) | omega))) <;> (try conv => whnf)))
      refine ⟨(show (2 : Nat) ≤ sizeLine by decide), ?_⟩
      ((try conv => whnf) <;> repeat ((first | (refine Ite.mt ?_ ?_; focus (first | rfl | (simp; done) | (simp; omega))) | (refine Ite.mf ?_ ?_; focus (first | rfl | (simp; done) | (simp; omega))) | (refine And.intro ?_ ?_; focus (first | rfl | decide | (simp; done) | (simp; omega) | omega))) <;> (try conv => whnf)))
      refine ⟨([("hold" : Str), digS w] : List Str), rfl, ?_, ?_⟩
      · simp only [List.map_cons, List.map_nil, List.sum_cons, List.sum_nil, List.length_cons, List.length_nil, dig_len (show 0 ≤ w by omega) (show w ≤ 9 by omega), show (" " : Str).length = 1 by decide +kernel, show ("hold" : Str).length = 4 by decide +kernel]
        decide
      rw [join_eq]
      ((try conv => whnf) <;> repeat ((first | (refine Ite.mt ?_ ?_; focus (first | rfl | (simp; done) | (simp; omega))) | (refine Ite.mf ?_ ?_; focus (first | rfl | (simp; done) | (simp; omega))) | (refine And.intro ?_ ?_; focus (first | rfl | decide | (simp; done) | (simp; omega) | omega))) <;> (try conv => whnf)))
      exact hK
  rw [List.nil_append, List.filterMap_eq_map', show (c.stages.map fun s => D.str (stgX s)) = (c.stages.map stgX).map D.str by rw [List.map_map]; rfl]
  have z1 : ((" from " : Str)).length = 6 := by decide +kernel
  ((try conv => whnf) <;> repeat ((first | (refine Ite.mt ?_ ?_; focus (first | rfl | (simp; done) | (simp; omega))) | (refine Ite.mf ?_ ?_; focus (first | rfl | (simp; done) | (simp; omega))) | (refine And.intro ?_ ?_; focus (first | rfl | decide | (simp; done) | (simp; omega) | omega))) <;> (try conv => whnf)))
  refine ⟨Nat.le_trans (show _ ≤ 1000 by omega) (by decide), ?_⟩
  ((try conv => whnf) <;> repeat ((first | (refine Ite.mt ?_ ?_; focus (first | rfl | (simp; done) | (simp; omega))) | (refine Ite.mf ?_ ?_; focus (first | rfl | (simp; done) | (simp; omega))) | (refine And.intro ?_ ?_; focus (first | rfl | decide | (simp; done) | (simp; omega) | omega))) <;> (try conv => whnf)))
  refine ⟨Nat.le_trans (show _ ≤ 1000 by simp only [Str.length_append]; omega) (by decide), ?_⟩
  rw [show ((toString c.top : String) : Str) ++ (" from " : Str) ++ ((toString c.start : String) : Str) = hdX c.top c.start from hd_eq _ _]
  ((try conv => whnf) <;> repeat ((first | (refine Ite.mt ?_ ?_; focus (first | rfl | (simp; done) | (simp; omega))) | (refine Ite.mf ?_ ?_; focus (first | rfl | (simp; done) | (simp; omega))) | (refine And.intro ?_ ?_; focus (first | rfl | decide | (simp; done) | (simp; omega) | omega))) <;> (try conv => whnf)))
  have dd : datd (.lst ((c.stages.map stgX).map D.str)) 2 = true := datd_lstS (by rw [List.length_map]; omega) fun x hx => by
    obtain ⟨s, hs, rfl⟩ := List.mem_map.mp hx
    exact tx_stg (ok.ok s hs) t5
  refine ⟨⟨datd_cmp dd (by decide), rfl⟩, ?_⟩
  (conv => whnf)
  have hl := hd_len (show 0 ≤ c.top by omega) (show c.top ≤ 9 by omega) (show 0 ≤ c.start by omega) (show c.start ≤ 9 by omega)
  by_cases hs : c.stages = []
  · refine Ite.mf (show (!D.eqv (.lst ((c.stages.map stgX).map D.str)) (.lst [])) = false by rw [hs]; rfl) ?_
    rw [chX, if_pos hs, ← app_nil (hdX c.top c.start)] at q
    ((try conv => whnf) <;> repeat ((first | (refine Ite.mt ?_ ?_; focus (first | rfl | (simp; done) | (simp; omega))) | (refine Ite.mf ?_ ?_; focus (first | rfl | (simp; done) | (simp; omega))) | (refine And.intro ?_ ?_; focus (first | rfl | decide | (simp; done) | (simp; omega) | omega))) <;> (try conv => whnf)))
    refine ⟨Nat.le_trans (show _ ≤ 1000 by rw [hl, show ("" : Str).length = 0 by decide +kernel]; decide) (by decide), ?_⟩
    ((try conv => whnf) <;> repeat ((first | (refine Ite.mt ?_ ?_; focus (first | rfl | (simp; done) | (simp; omega))) | (refine Ite.mf ?_ ?_; focus (first | rfl | (simp; done) | (simp; omega))) | (refine And.intro ?_ ?_; focus (first | rfl | decide | (simp; done) | (simp; omega) | omega))) <;> (try conv => whnf)))
    exact q
  · refine Ite.mt (show (!D.eqv (.lst ((c.stages.map stgX).map D.str)) (.lst [])) = true by
      obtain ⟨a, l, e⟩ := List.exists_cons_of_ne_nil hs
      rw [e]; rfl) ?_
    rw [chX, if_neg hs, Str.append_assoc] at q
    have sl : ∀ x ∈ c.stages.map stgX, x.length ≤ 8 := fun x hx => by
      obtain ⟨s, hs, rfl⟩ := List.mem_map.mp hx
      exact stg_len (ok.ok s hs) t5
    have sm := sum_le sl
    have jl := StrLaws.join_length_le cmS (c.stages.map stgX)
    have cl : cmS.length = 2 := by decide +kernel
    have cl2 : clS.length = 2 := by decide +kernel
    rw [List.length_map] at sm jl
    rw [cl] at jl
    ((try conv => whnf) <;> repeat ((first | (refine Ite.mt ?_ ?_; focus (first | rfl | (simp; done) | (simp; omega))) | (refine Ite.mf ?_ ?_; focus (first | rfl | (simp; done) | (simp; omega))) | (refine And.intro ?_ ?_; focus (first | rfl | decide | (simp; done) | (simp; omega) | omega))) <;> (try conv => whnf)))
    refine ⟨c.stages.map stgX, rfl, ?_, ?_⟩
    · rw [List.length_map, show (", " : Str).length = 2 by decide +kernel]
      omega
    rw [join_eq]
    ((try conv => whnf) <;> repeat ((first | (refine Ite.mt ?_ ?_; focus (first | rfl | (simp; done) | (simp; omega))) | (refine Ite.mf ?_ ?_; focus (first | rfl | (simp; done) | (simp; omega))) | (refine And.intro ?_ ?_; focus (first | rfl | decide | (simp; done) | (simp; omega) | omega))) <;> (try conv => whnf)))
    refine ⟨Nat.le_trans (show clS.length + (Str.join cmS (c.stages.map stgX)).length ≤ 1000 by omega) (by decide), ?_⟩
    ((try conv => whnf) <;> repeat ((first | (refine Ite.mt ?_ ?_; focus (first | rfl | (simp; done) | (simp; omega))) | (refine Ite.mf ?_ ?_; focus (first | rfl | (simp; done) | (simp; omega))) | (refine And.intro ?_ ?_; focus (first | rfl | decide | (simp; done) | (simp; omega) | omega))) <;> (try conv => whnf)))
    refine ⟨Nat.le_trans (show (hdX c.top c.start).length + (clS ++ Str.join cmS (c.stages.map stgX)).length ≤ 1000 by rw [Str.length_append]; omega) (by decide), ?_⟩
    ((try conv => whnf) <;> repeat ((first | (refine Ite.mt ?_ ?_; focus (first | rfl | (simp; done) | (simp; omega))) | (refine Ite.mf ?_ ?_; focus (first | rfl | (simp; done) | (simp; omega))) | (refine And.intro ?_ ?_; focus (first | rfl | decide | (simp; done) | (simp; omega) | omega))) <;> (try conv => whnf)))
    exact q
end VC

set_option Elab.async false
set_option linter.all false
set_option maxRecDepth 100000
set_option maxHeartbeats 4000000
/-! EK: _law_stages: all stages of that top, by what they are written. -/
namespace VC
open PySem PySem.Spec PyProof.Rows L2
theorem nodup_leS {α : Type} [DecidableEq α] : ∀ {l m : List α}, l.Nodup → (∀ x ∈ l, x ∈ m) → l.length ≤ m.length
  | [], _, _, _ => Nat.zero_le _
  | x :: l, m, n, h => by
    rw [List.nodup_cons] at n
    have hx := h x (List.mem_cons_self ..)
    have : l.length ≤ (m.erase x).length := nodup_leS n.2 fun y hy => (List.mem_erase_of_ne (fun e => n.1 (by rw [← e]; exact hy))).mpr (h y (List.mem_cons_of_mem _ hy))
    rw [List.length_erase_of_mem hx] at this
    have := List.length_pos_of_mem hx
    rw [List.length_cons]; omega
theorem stg_d_inj {s s' : Stg} (e : s.d = s'.d) : s = s' := by
  have w1 : ("slew" : Str) ≠ "clip" := by decide +kernel
  have w2 : ("slew" : Str) ≠ "gate" := by decide +kernel
  have w3 : ("clip" : Str) ≠ "gate" := by decide +kernel
  cases s <;> cases s' <;> simp only [Stg.d, D.tup.injEq, List.cons.injEq, D.str.injEq, D.int.injEq, and_true, true_and, reduceCtorEq, and_false, w1, w2, w3, w1.symm, w2.symm, w3.symm, false_and] at e
  · rw [e.1, e.2]
  · rw [e.1, e.2]
  · rw [e.1, e.2]
  · rw [e]
theorem stg_inj {t : Int} {s s' : Stg} (t5 : t ≤ 5) (h : s.Ok t) (h' : s'.Ok t) (e : stgX s = stgX s') : s = s' := by
  have := congrArg stageD e
  rw [stage_stgX t5 h, stage_stgX t5 h'] at this
  exact stg_d_inj this
/-- the stage's number in the law's walk -/
def numS : Stg → Int
  | .hold _ => 0
  | .slew a b => 1 + (a * 6 + b) * 3
  | .clip a b => 2 + (a * 6 + b) * 3
  | .gate a b => 3 + (a * 6 + b) * 3
def stKs (l : List Stg) : List D := l.map fun s => D.str (stgX s)
def stVs (l : List Stg) : List D := l.map Stg.d
/-- the stages up to the number n -/
structure StL (t n : Int) (l : List Stg) : Prop where
  nd : l.Nodup
  mem : ∀ s, s ∈ l ↔ s.Ok t ∧ numS s ≤ n
/-- every number from one stage on, apart: the holds below -/
def numI : Stg → Int
  | .hold w => -w
  | s => numS s
theorem StL.len {t n : Int} {l : List Stg} (t5 : t ≤ 5) (h : StL t n l) : l.length ≤ 1000 := by
  have nd : (l.map numI).Nodup := by
    unfold List.Nodup
    rw [List.pairwise_map]
    refine List.Pairwise.imp_of_mem (fun {a b} ha hb hab e => hab ?_) h.nd
    have oa := ((h.mem a).mp ha).1
    have ob := ((h.mem b).mp hb).1
    cases a <;> cases b <;> simp only [Stg.Ok] at oa ob <;> simp only [numI, numS] at e <;> first | omega | skip
    · rename_i u d u' d'
      have : u = u' ∧ d = d' := by omega
      rw [this.1, this.2]
    · rename_i u d u' d'
      have : u = u' ∧ d = d' := by omega
      rw [this.1, this.2]
    · rename_i u d u' d'
      have : u = u' ∧ d = d' := by omega
      rw [this.1, this.2]
    · rename_i u u'
      have : u = u' := by omega
      rw [this]
  have := nodup_leS (m := (List.range 200).map fun (i : Nat) => ((i : Int) - 5)) nd (fun x hx => by
    obtain ⟨s, hs, rfl⟩ := List.mem_map.mp hx
    have os := ((h.mem s).mp hs).1
    have hb : -5 ≤ numI s ∧ numI s < 150 := by
      cases s <;> simp only [Stg.Ok] at os <;> simp only [numI, numS] <;> omega
    exact List.mem_map.mpr ⟨(numI s + 5).toNat, List.mem_range.mpr (by omega), by omega⟩)
  rw [List.length_map, List.length_map, List.length_range] at this
  omega
theorem stKs_no {t n : Int} {l : List Stg} (t5 : t ≤ 5) (h : StL t n l) {s : Stg} (ok : s.Ok t) (hs : n < numS s) : D.str (stgX s) ∉ stKs l := fun hm => by
  obtain ⟨s', hs', e⟩ := List.mem_map.mp hm
  obtain ⟨o', n'⟩ := (h.mem s').mp hs'
  injection e with e
  have := stg_inj t5 o' ok e
  subst this
  omega
theorem StL.add {t n : Int} {l : List Stg} (h : StL t n l) {s : Stg} (ok : s.Ok t) (hs : numS s = n + 1) (hu : ∀ s', s'.Ok t → numS s' = n + 1 → s' = s) : StL t (n + 1) (l ++ [s]) := by
  refine ⟨?_, fun s' => ?_⟩
  · rw [List.nodup_append]
    refine ⟨h.nd, by simp, fun a ha b hb e => ?_⟩
    rw [List.mem_singleton.mp hb] at e
    subst e
    have := ((h.mem a).mp ha).2
    omega
  · rw [List.mem_append, h.mem, List.mem_singleton]
    constructor
    · rintro (⟨a, b⟩ | rfl)
      · exact ⟨a, by omega⟩
      · exact ⟨ok, by omega⟩
    · rintro ⟨a, b⟩
      by_cases e : numS s' = n + 1
      · exact .inr (hu s' a e)
      · exact .inl ⟨a, by omega⟩
theorem StL.skip {t n : Int} {l : List Stg} (h : StL t n l) (hu : ∀ s', s'.Ok t → numS s' ≠ n + 1) : StL t (n + 1) l := ⟨h.nd, fun s' => by
  rw [h.mem]
  exact ⟨fun ⟨a, b⟩ => ⟨a, by omega⟩, fun ⟨a, b⟩ => ⟨a, by have := hu s' a; omega⟩⟩⟩
theorem num_uniq {t : Int} (t5 : t ≤ 5) {i j : Int} (i0 : 0 ≤ i) (i5 : i ≤ 5) (j0 : 0 ≤ j) (j5 : j ≤ 5) {s : Stg} (ok : s.Ok t) :
    (numS s = 1 + (i * 6 + j) * 3 → s = .slew i j) ∧ (numS s = 2 + (i * 6 + j) * 3 → s = .clip i j) ∧ (numS s = 3 + (i * 6 + j) * 3 → s = .gate i j) := by
  cases s with
  | hold w => refine ⟨fun h => ?_, fun h => ?_, fun h => ?_⟩ <;> (simp only [numS] at h; omega)
  | slew a b =>
    obtain ⟨h1, h2, h3, h4⟩ := ok
    refine ⟨fun h => ?_, fun h => ?_, fun h => ?_⟩ <;> simp only [numS] at h
    · have : a = i ∧ b = j := by omega
      rw [this.1, this.2]
    · omega
    · omega
  | clip a b =>
    obtain ⟨h1, h2, h3, h4⟩ := ok
    refine ⟨fun h => ?_, fun h => ?_, fun h => ?_⟩ <;> simp only [numS] at h
    · omega
    · have : a = i ∧ b = j := by omega
      rw [this.1, this.2]
    · omega
  | gate a b =>
    obtain ⟨h1, h2, h3, h4⟩ := ok
    refine ⟨fun h => ?_, fun h => ?_, fun h => ?_⟩ <;> simp only [numS] at h
    · omega
    · omega
    · have : a = i ∧ b = j := by omega
      rw [this.1, this.2]
theorem num_le {t : Int} (t5 : t ≤ 5) {s : Stg} (ok : s.Ok t) : 0 ≤ numS s ∧ numS s ≤ 108 := by
  cases s <;> simp only [Stg.Ok] at ok <;> simp only [numS] <;> omega
def sp__law_stages : FSpec := fun ds S R _ => ∃ t : Int, ds = [.int t] ∧ 1 ≤ t ∧ t ≤ 5 ∧ ∀ l, StL t 108 l → R (.own (.dct (stKs l) (stVs l))) S
theorem mo__law_stages : MoF sp__law_stages := fun ds S R R' E i ⟨t, a, b, c, d⟩ => ⟨t, a, b, c, fun l h => i _ _ (d l h)⟩
theorem st_kinds (l : List Stg) (x : Str) : Kinds (stKs l) (.str x) := .inr ⟨rfl, fun q hq => by obtain ⟨s, _, rfl⟩ := List.mem_map.mp hq; rfl⟩
theorem stg_text3 (k : Str) (a b : Int) : k ++ (" " : Str) ++ digS a ++ (" " : Str) ++ digS b = Str.join spS [k, digS a, digS b] := by
  show _ = k ++ spS ++ (digS a ++ spS ++ digS b)
  rw [Str.append_assoc, Str.append_assoc, Str.append_assoc, Str.append_assoc]
  rw [Str.append_assoc]
theorem wFor_toE {Wi : WA} {G : WG} {W : WS} {D0 : WEnds} {e : VEnv} {S : Sto} (h : ∀ F : List D → VEnv → Sto → Prop, F = forW G W D0 → Wi e S fun items e s => F items e s) : wFor Wi G W D0 e S := h _ rfl
def kwD : Stg → D
  | .slew _ _ => .str "slew"
  | .clip _ _ => .str "clip"
  | .gate _ _ => .str "gate"
  | .hold _ => .str "hold"
theorem StL.zero {t : Int} (t5 : t ≤ 5) : StL t 0 [.hold 1, .hold 2] := ⟨by decide, fun s => by
  cases s <;> simp [Stg.Ok, numS] <;> omega⟩
theorem vc__law_stages (ds S R) (h : sp__law_stages ds S R (fun _ _ => False)) : wf_law_stages (ENDS R) (env0 5 ds) S := by
  obtain ⟨t, rfl, t1, t5, q⟩ := h
  have put : ∀ {n : Int} {l : List Stg} {s : Stg}, StL t n l → s.Ok t → numS s = n + 1 → (kok (.str (stgX s)) 8 = true ∧ Kinds (stKs l) (.str (stgX s)) ∧ (stKs l).length < 200000) ∧ D.str (stgX s) ∉ stKs l := fun {n l s} h ok hn => by
    have := h.len t5
    refine ⟨⟨rfl, st_kinds l _, by unfold stKs; rw [List.length_map]; omega⟩, stKs_no t5 h ok (by omega)⟩
  have app : ∀ (l : List Stg) (s : Stg), stKs l ++ [D.str (stgX s)] = stKs (l ++ [s]) ∧ stVs l ++ [s.d] = stVs (l ++ [s]) := fun l s => by
    unfold stKs stVs
    rw [List.map_append, List.map_append]
    exact ⟨rfl, rfl⟩
  ((try conv => whnf) <;> repeat ((first | (refine Ite.mt ?_ ?_; focus (first | rfl | (simp; done) | (simp; omega))) | (refine Ite.mf ?_ ?_; focus (first | rfl | (simp; done) | (simp; omega))) | (refine And.intro ?_ ?_; focus (first | rfl | decide | (simp; done) | (simp; omega) | omega))) <;> (try conv => whnf)))
  have e1 : stKs [.hold 1, .hold 2] = [D.str "hold 1", D.str "hold 2"] := by
    have a1 : stgX (.hold 1) = "hold 1" := by decide +kernel
    have a2 : stgX (.hold 2) = "hold 2" := by decide +kernel
    unfold stKs
    rw [List.map_cons, List.map_cons, List.map_nil, a1, a2]
  rw [← e1]
  refine forW_rng (fun i e s => ∃ (l : List Stg) (t2 t3 t4 : Option VC.T), e = [some (.val (.int t)), some (.own (.dct (stKs l) (stVs l))), t2, t3, t4] ∧ s = S ∧ StL t (i * 18) l) (fun e S h => ?_) (fun i e S K hi h hK => ?_) ⟨[.hold 1, .hold 2], _, _, _, rfl, rfl, by rw [show (((0 : Nat) : Int) * 18) = 0 by decide]; exact .zero t5⟩
  · obtain ⟨l, t2, t3, t4, rfl, rfl, hl⟩ := h
    ((try conv => whnf) <;> repeat ((first | (refine Ite.mt ?_ ?_; focus (first | rfl | (simp; done) | (simp; omega))) | (refine Ite.mf ?_ ?_; focus (first | rfl | (simp; done) | (simp; omega))) | (refine And.intro ?_ ?_; focus (first | rfl | decide | (simp; done) | (simp; omega) | omega))) <;> (try conv => whnf)))
    exact q l hl
  · obtain ⟨l, t2, t3, t4, rfl, rfl, hl⟩ := h
    ((try conv => whnf) <;> repeat ((first | (refine Ite.mt ?_ ?_; focus (first | rfl | (simp; done) | (simp; omega))) | (refine Ite.mf ?_ ?_; focus (first | rfl | (simp; done) | (simp; omega))) | (refine And.intro ?_ ?_; focus (first | rfl | decide | (simp; done) | (simp; omega) | omega))) <;> (try conv => whnf)))
    have ha0 : 0 ≤ 0 + (i : Int) := by omega
    have ha5 : 0 + (i : Int) ≤ 5 := by omega
    rw [show ((i : Nat) : Int) * 18 = (0 + (i : Int)) * 18 by omega] at hl
    have hK : ∀ (l : List Stg) (t3 t4 : Option VC.T), StL t ((0 + (i : Int)) * 18 + 18) l → K [some (.val (.int t)), some (.own (.dct (stKs l) (stVs l))), some (.val (.int (0 + (i : Int)))), t3, t4] S := fun l t3 t4 h => hK _ _ ⟨l, _, _, _, rfl, rfl, by rw [show (((i + 1 : Nat) : Int) * 18) = (0 + (i : Int)) * 18 + 18 by omega]; exact h⟩
    generalize 0 + (i : Int) = a at *
    have la := log9 ha0 (show a ≤ 9 by omega)
    have da := dig_len ha0 (show a ≤ 9 by omega)
    unfold digS at da
    refine forW_rng (fun j e s => ∃ (l : List Stg) (t3 t4 : Option VC.T), e = [some (.val (.int t)), some (.own (.dct (stKs l) (stVs l))), some (.val (.int a)), t3, t4] ∧ s = S ∧ StL t ((a * 6 + j) * 3) l) (fun e S' h => ?_) (fun j e S' K hj h hK' => ?_) ⟨l, _, _, rfl, rfl, by rw [show ((a * 6 + ((0 : Nat) : Int)) * 3) = a * 18 by omega]; exact hl⟩
    · obtain ⟨l, t3, t4, rfl, rfl, hl⟩ := h
      exact hK _ _ _ (by rw [show a * 18 + 18 = ((a * 6 + ((6 : Nat) : Int)) * 3) by omega]; exact hl)
    · obtain ⟨l, t3, t4, rfl, rfl, hl⟩ := h
      have hb0 : 0 ≤ 0 + (j : Int) := by omega
      have hb5 : 0 + (j : Int) ≤ 5 := by omega
      rw [show (a * 6 + (j : Int)) * 3 = (a * 6 + (0 + (j : Int))) * 3 by omega] at hl
      have hK' : ∀ (l : List Stg) (t4 : Option VC.T), StL t ((a * 6 + (0 + (j : Int))) * 3 + 3) l → K [some (.val (.int t)), some (.own (.dct (stKs l) (stVs l))), some (.val (.int a)), some (.val (.int (0 + (j : Int)))), t4] S' := fun l t4 h => hK' _ _ ⟨l, _, _, rfl, rfl, by rw [show (a * 6 + ((j + 1 : Nat) : Int)) * 3 = (a * 6 + (0 + (j : Int))) * 3 + 3 by omega]; exact h⟩
      generalize 0 + (j : Int) = b at *
      have lb := log9 hb0 (show b ≤ 9 by omega)
      have db := dig_len hb0 (show b ≤ 9 by omega)
      unfold digS at db
      have k1 : ("slew" : Str).length = 4 := by decide +kernel
      have k2 : ("clip" : Str).length = 4 := by decide +kernel
      have k3 : ("gate" : Str).length = 4 := by decide +kernel
      have k4 : (" " : Str).length = 1 := by decide +kernel
      have o1 : (Stg.slew a b).Ok t := ⟨ha0, ha5, hb0, hb5⟩
      obtain ⟨u1, u2, u3⟩ : _ ∧ _ ∧ _ := ⟨fun s ok => (num_uniq t5 ha0 ha5 hb0 hb5 (s := s) ok).1, fun s ok => (num_uniq t5 ha0 ha5 hb0 hb5 (s := s) ok).2.1, fun s ok => (num_uniq t5 ha0 ha5 hb0 hb5 (s := s) ok).2.2⟩
      generalize hn : (a * 6 + b) * 3 = n at *
      have sz : ∀ x : Nat, x ≤ 100 → x ≤ sizeLine := fun x h => Nat.le_trans h (by decide)
      refine wFor_toE fun F hF => ?_
      ((try conv => whnf) <;> repeat ((first | (refine Ite.mt ?_ ?_; focus (first | rfl | (simp; done) | (simp; omega))) | (refine Ite.mf ?_ ?_; focus (first | rfl | (simp; done) | (simp; omega))) | (refine And.intro ?_ ?_; focus (first | rfl | decide | (simp; done) | (simp; omega) | omega))) <;> (try conv => whnf)))
      subst hF
      refine forW_map (f := kwD) (fun (ss : List Stg) e s => ∃ (l : List Stg) (t4 : Option VC.T), e = [some (.val (.int t)), some (.own (.dct (stKs l) (stVs l))), some (.val (.int a)), some (.val (.int b)), t4] ∧ s = S' ∧ ((ss = [.slew a b, .clip a b, .gate a b] ∧ StL t n l) ∨ (ss = [.clip a b, .gate a b] ∧ StL t (n + 1) l) ∨ (ss = [.gate a b] ∧ StL t (n + 1 + 1) l) ∨ (ss = [] ∧ StL t (n + 1 + 1 + 1) l))) ?_ ?_ (items := [.slew a b, .clip a b, .gate a b]) ⟨l, _, rfl, rfl, .inl ⟨rfl, hl⟩⟩
      · rintro e s ⟨l, t4, rfl, rfl, h⟩
        rcases h with ⟨h, _⟩ | ⟨h, _⟩ | ⟨h, _⟩ | ⟨_, hl⟩
        · cases h
        · cases h
        · cases h
        · exact hK' l t4 (by rw [show n + 3 = n + 1 + 1 + 1 by omega]; exact hl)
      · rintro s0 ss e S' K2 ⟨l, t4, rfl, rfl, h⟩ hK2
        rcases h with ⟨h, hl⟩ | ⟨h, hl⟩ | ⟨h, hl⟩ | ⟨h, _⟩
        · injection h with h h'
          subst h h'
          have ok := o1
          ((try conv => whnf) <;> repeat ((first | (refine Ite.mt ?_ ?_; focus (first | rfl | (simp; done) | (simp; omega))) | (refine Ite.mf ?_ ?_; focus (first | rfl | (simp; done) | (simp; omega))) | (refine And.intro ?_ ?_; focus (first | rfl | decide | (simp; done) | (simp; omega) | omega))) <;> (try conv => whnf)))
          refine ⟨sz _ (by simp only [Str.length_append, k1, k2, k3, k4, da, db]; decide), ?_⟩
          ((try conv => whnf) <;> repeat ((first | (refine Ite.mt ?_ ?_; focus (first | rfl | (simp; done) | (simp; omega))) | (refine Ite.mf ?_ ?_; focus (first | rfl | (simp; done) | (simp; omega))) | (refine And.intro ?_ ?_; focus (first | rfl | decide | (simp; done) | (simp; omega) | omega))) <;> (try conv => whnf)))
          refine ⟨sz _ (by simp only [Str.length_append, k1, k2, k3, k4, da, db]; decide), ?_⟩
          ((try conv => whnf) <;> repeat ((first | (refine Ite.mt ?_ ?_; focus (first | rfl | (simp; done) | (simp; omega))) | (refine Ite.mf ?_ ?_; focus (first | rfl | (simp; done) | (simp; omega))) | (refine And.intro ?_ ?_; focus (first | rfl | decide | (simp; done) | (simp; omega) | omega))) <;> (try conv => whnf)))
          refine ⟨sz _ (by simp only [Str.length_append, k1, k2, k3, k4, da, db]; decide), ?_⟩
          rw [show ("slew" : Str) ++ (" " : Str) ++ ((toString a : String) : Str) ++ (" " : Str) ++ ((toString b : String) : Str) = stgX (.slew a b) from stg_text3 _ _ _]
          (conv => whnf)
          obtain ⟨p1, p2⟩ := put hl ok (by show 1 + (a * 6 + b) * 3 = _; omega)
          obtain ⟨q1, q2⟩ := app l (.slew a b)
          refine ⟨⟨rfl, p1⟩, .inr ⟨p2, ?_⟩⟩
          exact hK2 _ _ ⟨l ++ [.slew a b], _, by rw [← q1, ← q2]; rfl, rfl, .inr (.inl ⟨rfl, hl.add ok (by show 1 + (a * 6 + b) * 3 = _; omega) fun s ok h => u1 s ok (by rw [h]; omega)⟩)⟩
        · injection h with h h'
          subst h h'
          by_cases h1 : a ≤ b
          · by_cases h2 : b ≤ t
            · have ok : (Stg.clip a b).Ok t := ⟨by omega, by omega, by omega, by omega⟩
              ((try conv => whnf) <;> repeat ((first | (refine Ite.mt ?_ ?_; focus (first | rfl | (simp; done) | (simp; omega))) | (refine Ite.mf ?_ ?_; focus (first | rfl | (simp; done) | (simp; omega))) | (refine And.intro ?_ ?_; focus (first | rfl | decide | (simp; done) | (simp; omega) | omega))) <;> (try conv => whnf)))
              refine ⟨sz _ (by simp only [Str.length_append, k1, k2, k3, k4, da, db]; decide), ?_⟩
              ((try conv => whnf) <;> repeat ((first | (refine Ite.mt ?_ ?_; focus (first | rfl | (simp; done) | (simp; omega))) | (refine Ite.mf ?_ ?_; focus (first | rfl | (simp; done) | (simp; omega))) | (refine And.intro ?_ ?_; focus (first | rfl | decide | (simp; done) | (simp; omega) | omega))) <;> (try conv => whnf)))
              refine ⟨sz _ (by simp only [Str.length_append, k1, k2, k3, k4, da, db]; decide), ?_⟩
              ((try conv => whnf) <;> repeat ((first | (refine Ite.mt ?_ ?_; focus (first | rfl | (simp; done) | (simp; omega))) | (refine Ite.mf ?_ ?_; focus (first | rfl | (simp; done) | (simp; omega))) | (refine And.intro ?_ ?_; focus (first | rfl | decide | (simp; done) | (simp; omega) | omega))) <;> (try conv => whnf)))
              refine ⟨sz _ (by simp only [Str.length_append, k1, k2, k3, k4, da, db]; decide), ?_⟩
              rw [show ("clip" : Str) ++ (" " : Str) ++ ((toString a : String) : Str) ++ (" " : Str) ++ ((toString b : String) : Str) = stgX (.clip a b) from stg_text3 _ _ _]
              (conv => whnf)
              obtain ⟨p1, p2⟩ := put hl ok (by show 2 + (a * 6 + b) * 3 = _; omega)
              obtain ⟨q1, q2⟩ := app l (.clip a b)
              refine ⟨⟨rfl, p1⟩, .inr ⟨p2, ?_⟩⟩
              exact hK2 _ _ ⟨l ++ [.clip a b], _, by rw [← q1, ← q2]; rfl, rfl, .inr (.inr (.inl ⟨rfl, hl.add ok (by show 2 + (a * 6 + b) * 3 = _; omega) fun s ok h => u2 s ok (by rw [h]; omega)⟩))⟩
            · (conv => whnf)
              refine Ite.mf (by rfl) ?_
              (conv => whnf)
              refine Ite.mt (by simp; omega) ?_
              (conv => whnf)
              refine Ite.mf (by simp; omega) ?_
              ((try conv => whnf) <;> repeat ((first | (refine Ite.mt ?_ ?_; focus (first | rfl | (simp; done) | (simp; omega))) | (refine Ite.mf ?_ ?_; focus (first | rfl | (simp; done) | (simp; omega))) | (refine And.intro ?_ ?_; focus (first | rfl | decide | (simp; done) | (simp; omega) | omega))) <;> (try conv => whnf)))
              exact hK2 _ _ ⟨l, _, rfl, rfl, .inr (.inr (.inl ⟨rfl, hl.skip fun s ok h => by have := u2 s ok (by rw [h]; omega); subst this; simp only [Stg.Ok] at ok; omega⟩))⟩
          · (conv => whnf)
            refine Ite.mf (by rfl) ?_
            (conv => whnf)
            refine Ite.mf (by simp; omega) ?_
            ((try conv => whnf) <;> repeat ((first | (refine Ite.mt ?_ ?_; focus (first | rfl | (simp; done) | (simp; omega))) | (refine Ite.mf ?_ ?_; focus (first | rfl | (simp; done) | (simp; omega))) | (refine And.intro ?_ ?_; focus (first | rfl | decide | (simp; done) | (simp; omega) | omega))) <;> (try conv => whnf)))
            exact hK2 _ _ ⟨l, _, rfl, rfl, .inr (.inr (.inl ⟨rfl, hl.skip fun s ok h => by have := u2 s ok (by rw [h]; omega); subst this; simp only [Stg.Ok] at ok; omega⟩))⟩
        · injection h with h h'
          subst h h'
          by_cases h1 : a ≤ b
          · by_cases h2 : b ≤ t
            · have ok : (Stg.gate a b).Ok t := ⟨by omega, by omega, by omega, by omega⟩
              ((try conv => whnf) <;> repeat ((first | (refine Ite.mt ?_ ?_; focus (first | rfl | (simp; done) | (simp; omega))) | (refine Ite.mf ?_ ?_; focus (first | rfl | (simp; done) | (simp; omega))) | (refine And.intro ?_ ?_; focus (first | rfl | decide | (simp; done) | (simp; omega) | omega))) <;> (try conv => whnf)))
              refine ⟨sz _ (by simp only [Str.length_append, k1, k2, k3, k4, da, db]; decide), ?_⟩
              ((try conv => whnf) <;> repeat ((first | (refine Ite.mt ?_ ?_; focus (first | rfl | (simp; done) | (simp; omega))) | (refine Ite.mf ?_ ?_; focus (first | rfl | (simp; done) | (simp; omega))) | (refine And.intro ?_ ?_; focus (first | rfl | decide | (simp; done) | (simp; omega) | omega))) <;> (try conv => whnf)))
              refine ⟨sz _ (by simp only [Str.length_append, k1, k2, k3, k4, da, db]; decide), ?_⟩
              ((try conv => whnf) <;> repeat ((first | (refine Ite.mt ?_ ?_; focus (first | rfl | (simp; done) | (simp; omega))) | (refine Ite.mf ?_ ?_; focus (first | rfl | (simp; done) | (simp; omega))) | (refine And.intro ?_ ?_; focus (first | rfl | decide | (simp; done) | (simp; omega) | omega))) <;> (try conv => whnf)))
              refine ⟨sz _ (by simp only [Str.length_append, k1, k2, k3, k4, da, db]; decide), ?_⟩
              rw [show ("gate" : Str) ++ (" " : Str) ++ ((toString a : String) : Str) ++ (" " : Str) ++ ((toString b : String) : Str) = stgX (.gate a b) from stg_text3 _ _ _]
              (conv => whnf)
              obtain ⟨p1, p2⟩ := put hl ok (by show 3 + (a * 6 + b) * 3 = _; omega)
              obtain ⟨q1, q2⟩ := app l (.gate a b)
              refine ⟨⟨rfl, p1⟩, .inr ⟨p2, ?_⟩⟩
              exact hK2 _ _ ⟨l ++ [.gate a b], _, by rw [← q1, ← q2]; rfl, rfl, .inr (.inr (.inr ⟨rfl, hl.add ok (by show 3 + (a * 6 + b) * 3 = _; omega) fun s ok h => u3 s ok (by rw [h]; omega)⟩))⟩
            · (conv => whnf)
              refine Ite.mf (by rfl) ?_
              (conv => whnf)
              refine Ite.mt (by simp; omega) ?_
              (conv => whnf)
              refine Ite.mf (by simp; omega) ?_
              ((try conv => whnf) <;> repeat ((first | (refine Ite.mt ?_ ?_; focus (first | rfl | (simp; done) | (simp; omega))) | (refine Ite.mf ?_ ?_; focus (first | rfl | (simp; done) | (simp; omega))) | (refine And.intro ?_ ?_; focus (first | rfl | decide | (simp; done) | (simp; omega) | omega))) <;> (try conv => whnf)))
              exact hK2 _ _ ⟨l, _, rfl, rfl, .inr (.inr (.inr ⟨rfl, hl.skip fun s ok h => by have := u3 s ok (by rw [h]; omega); subst this; simp only [Stg.Ok] at ok; omega⟩))⟩
          · (conv => whnf)
            refine Ite.mf (by rfl) ?_
            (conv => whnf)
            refine Ite.mf (by simp; omega) ?_
            ((try conv => whnf) <;> repeat ((first | (refine Ite.mt ?_ ?_; focus (first | rfl | (simp; done) | (simp; omega))) | (refine Ite.mf ?_ ?_; focus (first | rfl | (simp; done) | (simp; omega))) | (refine And.intro ?_ ?_; focus (first | rfl | decide | (simp; done) | (simp; omega) | omega))) <;> (try conv => whnf)))
            exact hK2 _ _ ⟨l, _, rfl, rfl, .inr (.inr (.inr ⟨rfl, hl.skip fun s ok h => by have := u3 s ok (by rw [h]; omega); subst this; simp only [Stg.Ok] at ok; omega⟩))⟩
        · cases h
end VC

set_option Elab.async false
set_option linter.all false
set_option maxRecDepth 100000
set_option maxHeartbeats 4000000
/-! EL: _law_read: the law's own reader of a line. -/
namespace VC
open PySem PySem.Spec PyProof.Rows L2
theorem cut_at {y r : Str} {k : Int} (hk : k = (y.length : Int)) : cutS (y ++ r) (some k) none = r := by
  subst hk
  refine cs_ext ?_
  show ((cs (y ++ r)).drop (HT.sIx (y ++ r).length 0 (some ((y.length : Nat) : Int)))).take ((y ++ r).length - HT.sIx (y ++ r).length 0 (some ((y.length : Nat) : Int))) = cs r
  have hl : (y ++ r).length = y.length + r.length := Str.length_append ..
  rw [HT.sIx_nat, hl, Nat.min_eq_left (by omega), cs_app, List.drop_left' (cs_len y), List.take_of_length_le (by rw [cs_len]; omega)]
def gwD (t : Int) (w : Str) : D := if stgB t (stageD w) = true then stageD w else .non
theorem gw_cases {t : Int} (w : Str) : (gwD t w = .non ∧ stgB t (stageD w) = false) ∨ ∃ s : Stg, gwD t w = s.d ∧ stageD w = s.d ∧ s.Ok t ∧ stgB t (stageD w) = true := by
  unfold gwD
  by_cases h : stgB t (stageD w) = true
  · rw [if_pos h]
    obtain ⟨s, e, ok⟩ := stgB_of h
    exact .inr ⟨s, e, e, ok, h⟩
  · rw [if_neg h]
    exact .inl ⟨rfl, by simpa using h⟩
theorem gw_in {t : Int} {l : List Stg} (t5 : t ≤ 5) (h : StL t 108 l) (w : Str) : (∃ (i : Nat) (y : D), (stKs l)[i]? = some (.str w) ∧ (stVs l)[i]? = some y ∧ gwD t w = y) ∨ (D.str w ∉ stKs l ∧ gwD t w = .non) := by
  rcases gw_cases (t := t) w with ⟨e, hb⟩ | ⟨s, e, e2, ok, _⟩
  · refine .inr ⟨fun hm => ?_, e⟩
    obtain ⟨s, hs, he⟩ := List.mem_map.mp hm
    have ok := ((h.mem s).mp hs).1
    injection he with he
    rw [← he, stage_stgX t5 ok, stgB_on ok] at hb
    cases hb
  · have hs : s ∈ l := (h.mem s).mpr ⟨ok, (num_le t5 ok).2⟩
    obtain ⟨i, hi, hg⟩ := List.getElem_of_mem hs
    have hg : l[i]? = some s := by rw [List.getElem?_eq_getElem hi, hg]
    refine .inl ⟨i, s.d, ?_, ?_, e⟩
    · unfold stKs
      rw [List.getElem?_map, hg, Option.map_some, ← stage_inv e2]
    · unfold stVs
      rw [List.getElem?_map, hg, Option.map_some]
/-- the stages but the clips -/
def bareF (t : Int) (w : Str) : Option D := if (gwD t w).isNon = true then none else if ncB (gwD t w) = true then some (gwD t w) else none
def anyN (t : Int) (ws : List Str) : Bool := (ws.map (gwD t)).any fun z => D.eqv z .non
theorem stg_eqv (s : Stg) : D.eqv s.d .non = false := by cases s <;> rfl
theorem anyN_no {t : Int} {ws : List Str} (h : anyN t ws = false) : ws.map (gwD t) = ws.map stageD ∧ (∀ w ∈ ws, stgB t (stageD w) = true) := by
  unfold anyN at h
  rw [List.any_eq_false] at h
  have : ∀ w ∈ ws, gwD t w = stageD w ∧ stgB t (stageD w) = true := fun w hw => by
    rcases gw_cases (t := t) w with ⟨e, hb⟩ | ⟨s, e, e2, ok, hb⟩
    · exact absurd (by rw [e]; rfl) (h (gwD t w) (List.mem_map.mpr ⟨w, hw, rfl⟩))
    · exact ⟨by rw [e, e2], hb⟩
  exact ⟨List.map_congr_left fun w hw => (this w hw).1, fun w hw => (this w hw).2⟩
theorem anyN_yes {t : Int} {ws : List Str} (h : anyN t ws = true) : ∃ w ∈ ws, stgB t (stageD w) = false := by
  unfold anyN at h
  rw [List.any_eq_true] at h
  obtain ⟨d, hd, he⟩ := h
  obtain ⟨w, hw, rfl⟩ := List.mem_map.mp hd
  refine ⟨w, hw, ?_⟩
  rcases gw_cases (t := t) w with ⟨e, hb⟩ | ⟨s, e, e2, ok, hb⟩
  · exact hb
  · rw [e, stg_eqv] at he; cases he
theorem bare_len {t : Int} {ws : List Str} (h : anyN t ws = false) : (ws.filterMap (bareF t)).length = ((ws.map stageD).filter ncB).length := by
  obtain ⟨h1, h2⟩ := anyN_no h
  have key : ∀ ws : List Str, (∀ w ∈ ws, stgB t (stageD w) = true) → (ws.filterMap (bareF t)).length = ((ws.map stageD).filter ncB).length := by
    intro ws
    induction ws with
    | nil => intro _; rfl
    | cons w ws ih =>
      intro h
      have ih := ih fun w hw => h w (List.mem_cons_of_mem _ hw)
      have hw := h w (List.mem_cons_self ..)
      rcases gw_cases (t := t) w with ⟨e, hb⟩ | ⟨s, e, e2, ok, hb⟩
      · rw [hb] at hw; cases hw
      · rw [List.filterMap_cons, List.map_cons, List.filter_cons]
        have : bareF t w = if ncB (stageD w) = true then some (stageD w) else none := by
          unfold bareF
          rw [e, if_neg (by cases s <;> exact fun z => nomatch z), e2]
        rw [this]
        cases ncB (stageD w) <;> simp [ih]
  exact key ws h2
theorem read_fin {t a : Int} {ws : List Str} (t1 : 1 ≤ t) (t5 : t ≤ 5) (a0 : 0 ≤ a) (at' : a ≤ t) :
    onlyC (.tup [.int t, .int a, .tup (ws.map stageD)]) = if anyN t ws = false ∧ ws.length < 4 ∧ (ws.filterMap (bareF t)).length < 3 then .tup [.int t, .int a, .tup (ws.map (gwD t))] else .non := by
  by_cases hn : anyN t ws = false
  · obtain ⟨h1, h2⟩ := anyN_no hn
    have hb := bare_len hn
    by_cases hl : ws.length < 4
    · by_cases hk : (ws.filterMap (bareF t)).length < 3
      · rw [if_pos ⟨hn, hl, hk⟩, h1]
        refine onlyC_t ?_
        simp only [chnB, Bool.and_eq_true, decide_eq_true_eq, List.length_map, List.all_eq_true, fromB]
        refine ⟨⟨t1, t5⟩, ⟨a0, at'⟩, by omega, fun d hd => ?_, by omega⟩
        obtain ⟨w, hw, rfl⟩ := List.mem_map.mp hd
        exact h2 w hw
      · rw [if_neg fun z => hk z.2.2]
        refine onlyC_f ?_
        rw [← Bool.not_eq_true]
        intro h
        simp only [chnB, Bool.and_eq_true, decide_eq_true_eq] at h
        have := h.2.2.2.2
        omega
    · rw [if_neg fun z => hl z.2.1]
      refine onlyC_f ?_
      rw [← Bool.not_eq_true]
      intro h
      simp only [chnB, Bool.and_eq_true, decide_eq_true_eq, List.length_map] at h
      have := h.2.2.1
      omega
  · rw [if_neg fun z => hn z.1]
    obtain ⟨w, hw, hb⟩ := anyN_yes (by simpa using hn)
    refine onlyC_f ?_
    rw [← Bool.not_eq_true]
    intro h
    simp only [chnB, Bool.and_eq_true, List.all_eq_true] at h
    have := h.2.2.2.1 _ (List.mem_map.mpr ⟨w, hw, rfl⟩)
    rw [hb] at this
    cases this
/-- the line does not begin with that head -/
def NoHd (x : Str) (t a : Int) : Prop := x ≠ hdX t a ∧ ∀ r, x ≠ hdX t a ++ clS ++ r
theorem nohd_non {x : Str} (h : ∀ t a : Int, 1 ≤ t → t ≤ 5 → 0 ≤ a → a ≤ t → NoHd x t a) : lineD x = .non := by
  unfold lineD
  refine if_neg fun hc => ?_
  obtain ⟨t, a, t1, t5, a0, at', he⟩ := line_inv hc
  obtain ⟨h1, h2⟩ := h t a t1 t5 a0 at'
  rcases he with he | ⟨r, he⟩
  · exact h1 he
  · exact h2 r he
theorem line_hdD {t a : Int} (t1 : 1 ≤ t) (t5 : t ≤ 5) (a0 : 0 ≤ a) (at' : a ≤ t) : lineD (hdX t a) = .tup [.int t, .int a, .tup []] := by
  unfold lineD
  rw [line_hd (by omega) (by omega) a0 (by omega), if_pos]
  simp only [chnB, Bool.and_eq_true, decide_eq_true_eq, fromB]
  exact ⟨⟨t1, t5⟩, ⟨a0, at'⟩, by decide, by rfl, by decide⟩
theorem line_stD {t a : Int} {r : Str} (t1 : 1 ≤ t) (t5 : t ≤ 5) (a0 : 0 ≤ a) (at' : a ≤ t) : lineD (hdX t a ++ clS ++ r) = onlyC (.tup [.int t, .int a, .tup ((Txt.split r cmS).map stageD)]) := by
  unfold lineD onlyC
  rw [line_st (by omega) (by omega) a0 (by omega)]
theorem vc__law_read (ds S R) (h : sp__law_read ds S R (fun _ _ => False)) : wf_law_read sp__law_stages (ENDS R) (env0 10 ds) S := by
  obtain ⟨x, rfl, hx, tx, q⟩ := h
  have hx' : x.length ≤ sizeLine := th40 (by omega)
  ((try conv => whnf) <;> repeat ((first | (refine Ite.mt ?_ ?_; focus (first | rfl | (simp; done) | (simp; omega))) | (refine Ite.mf ?_ ?_; focus (first | rfl | (simp; done) | (simp; omega))) | (refine And.intro ?_ ?_; focus (first | rfl | decide | (simp; done) | (simp; omega) | omega))) <;> (try conv => whnf)))
  refine forW_rng (fun i e s => ∃ t1 t2 t3 : Option VC.T, e = [some (.val (.str x)), t1, t2, t3, none, none, none, none, none, none] ∧ s = S ∧ ∀ t a : Int, 1 ≤ t → t ≤ i → 0 ≤ a → a ≤ t → NoHd x t a) (fun e S h => ?_) (fun i e S K hi h hK => ?_) ⟨_, _, _, rfl, rfl, fun t a h1 h2 => by omega⟩
  · obtain ⟨t1, t2, t3, rfl, rfl, hn⟩ := h
    rw [nohd_non fun t a h1 h2 h3 h4 => hn t a h1 (by omega) h3 h4] at q
    ((try conv => whnf) <;> repeat ((first | (refine Ite.mt ?_ ?_; focus (first | rfl | (simp; done) | (simp; omega))) | (refine Ite.mf ?_ ?_; focus (first | rfl | (simp; done) | (simp; omega))) | (refine And.intro ?_ ?_; focus (first | rfl | decide | (simp; done) | (simp; omega) | omega))) <;> (try conv => whnf)))
    exact q
  · obtain ⟨t1, t2, t3, rfl, rfl, hn⟩ := h
    have b1 : 1 ≤ 1 + (i : Int) := by omega
    have b5 : 1 + (i : Int) ≤ 5 := by omega
    have hK : (∀ a : Int, 0 ≤ a → a ≤ 1 + (i : Int) → NoHd x (1 + (i : Int)) a) → ∀ t2 t3 : Option VC.T, K [some (.val (.str x)), some (.val (.int (1 + (i : Int)))), t2, t3, none, none, none, none, none, none] S := fun h t2 t3 => hK _ _ ⟨_, _, _, rfl, rfl, fun t a h1 h2 h3 h4 => by
      by_cases e : t = 1 + (i : Int)
      · rw [e]; exact h a h3 (by omega)
      · exact hn t a h1 (by omega) h3 h4⟩
    clear hn
    generalize 1 + (i : Int) = t at *
    ((try conv => whnf) <;> repeat ((first | (refine Ite.mt ?_ ?_; focus (first | rfl | (simp; done) | (simp; omega))) | (refine Ite.mf ?_ ?_; focus (first | rfl | (simp; done) | (simp; omega))) | (refine And.intro ?_ ?_; focus (first | omega | (simp; done) | (simp; omega) | rfl | decide))) <;> (try conv => whnf)))
    refine forW_rng (fun i e s => ∃ t2 t3 : Option VC.T, e = [some (.val (.str x)), some (.val (.int t)), t2, t3, none, none, none, none, none, none] ∧ s = S ∧ ∀ a : Int, 0 ≤ a → a < i → NoHd x t a) (fun e S h => ?_) (fun i e S K hi h hK => ?_) ⟨_, _, rfl, rfl, fun a h1 h2 => by omega⟩
    · obtain ⟨t2, t3, rfl, rfl, hn⟩ := h
      exact hK (fun a h1 h2 => hn a h1 (by omega)) _ _
    · obtain ⟨t2, t3, rfl, rfl, hn⟩ := h
      have a0 : 0 ≤ 0 + (i : Int) := by omega
      have at' : 0 + (i : Int) ≤ t := by omega
      have hK : NoHd x t (0 + (i : Int)) → ∀ t2 t3 : Option VC.T, K [some (.val (.str x)), some (.val (.int t)), t2, t3, none, none, none, none, none, none] S := fun h t2 t3 => hK _ _ ⟨_, _, rfl, rfl, fun a h1 h2 => by
        by_cases e : a = 0 + (i : Int)
        · rw [e]; exact h
        · exact hn a h1 (by omega)⟩
      clear hn hi
      generalize 0 + (i : Int) = a at *
      have lt := log9 (show 0 ≤ t by omega) (show t ≤ 9 by omega)
      have la := log9 a0 (show a ≤ 9 by omega)
      have d1 := dig_len (show 0 ≤ t by omega) (show t ≤ 9 by omega)
      have d2 := dig_len a0 (show a ≤ 9 by omega)
      unfold digS at d1 d2
      have z1 : ((" from " : Str)).length = 6 := by decide +kernel
      have hl := hd_len (show 0 ≤ t by omega) (show t ≤ 9 by omega) a0 (show a ≤ 9 by omega)
      ((try conv => whnf) <;> repeat ((first | (refine Ite.mt ?_ ?_; focus (first | rfl | (simp; done) | (simp; omega))) | (refine Ite.mf ?_ ?_; focus (first | rfl | (simp; done) | (simp; omega))) | (refine And.intro ?_ ?_; focus (first | omega | (simp; done) | (simp; omega) | rfl | decide))) <;> (try conv => whnf)))
      refine ⟨Nat.le_trans (show _ ≤ 1000 by omega) (by decide), ?_⟩
      ((try conv => whnf) <;> repeat ((first | (refine Ite.mt ?_ ?_; focus (first | rfl | (simp; done) | (simp; omega))) | (refine Ite.mf ?_ ?_; focus (first | rfl | (simp; done) | (simp; omega))) | (refine And.intro ?_ ?_; focus (first | omega | (simp; done) | (simp; omega) | rfl | decide))) <;> (try conv => whnf)))
      refine ⟨Nat.le_trans (show _ ≤ 1000 by simp only [Str.length_append]; omega) (by decide), ?_⟩
      rw [show ((toString t : String) : Str) ++ (" from " : Str) ++ ((toString a : String) : Str) = hdX t a from hd_eq _ _]
      (conv => whnf)
      by_cases h1 : x = hdX t a
      · refine Ite.mt (show decide (x = hdX t a) = true from decide_eq_true h1) ?_
        rw [h1, line_hdD b1 b5 a0 at'] at q
        ((try conv => whnf) <;> repeat ((first | (refine Ite.mt ?_ ?_; focus (first | rfl | (simp; done) | (simp; omega))) | (refine Ite.mf ?_ ?_; focus (first | rfl | (simp; done) | (simp; omega))) | (refine And.intro ?_ ?_; focus (first | rfl | decide | (simp; done) | (simp; omega) | omega))) <;> (try conv => whnf)))
        exact q
      refine Ite.mf (show decide (x = hdX t a) = false from decide_eq_false h1) ?_
      ((try conv => whnf) <;> repeat ((first | (refine Ite.mt ?_ ?_; focus (first | rfl | (simp; done) | (simp; omega))) | (refine Ite.mf ?_ ?_; focus (first | rfl | (simp; done) | (simp; omega))) | (refine And.intro ?_ ?_; focus (first | rfl | decide | (simp; done) | (simp; omega) | omega))) <;> (try conv => whnf)))
      refine ⟨Nat.le_trans (show (hdX t a).length + clS.length ≤ 1000 by rw [hl]; decide +kernel) (by decide), ?_⟩
      (conv => whnf)
      by_cases h2 : Txt.startswith x (hdX t a ++ clS) = true
      · refine Ite.mt h2 ?_
        obtain ⟨r, er⟩ := (starts_iff _ _).mp h2
        rw [er, line_stD b1 b5 a0 at'] at q
        have rl : r.length ≤ 10000 := by
          have := congrArg Str.length er
          rw [Str.length_append] at this
          omega
        have sl : (Txt.split r cmS).length ≤ r.length + 2 := PyProof.Rows.split_le r cmS
        ((try conv => whnf) <;> repeat ((first | (refine Ite.mt ?_ ?_; focus (first | rfl | (simp; done) | (simp; omega))) | (refine Ite.mf ?_ ?_; focus (first | rfl | (simp; done) | (simp; omega))) | (refine And.intro ?_ ?_; focus (first | rfl | decide | (simp; done) | (simp; omega) | omega))) <;> (try conv => whnf)))
        refine ⟨t, rfl, b1, b5, fun l hl' => ?_⟩
        ((try conv => whnf) <;> repeat ((first | (refine Ite.mt ?_ ?_; focus (first | rfl | (simp; done) | (simp; omega))) | (refine Ite.mf ?_ ?_; focus (first | rfl | (simp; done) | (simp; omega))) | (refine And.intro ?_ ?_; focus (first | rfl | decide | (simp; done) | (simp; omega) | omega))) <;> (try conv => whnf)))
        refine ⟨Nat.le_trans (show (hdX t a).length ≤ 1000 by omega) (by decide), ?_⟩
        ((try conv => whnf) <;> repeat ((first | (refine Ite.mt ?_ ?_; focus (first | rfl | (simp; done) | (simp; omega))) | (refine Ite.mf ?_ ?_; focus (first | rfl | (simp; done) | (simp; omega))) | (refine And.intro ?_ ?_; focus (first | rfl | decide | (simp; done) | (simp; omega) | omega))) <;> (try conv => whnf)))
        rw [show cutS x (some ((hdX t a).length + 2 : Int)) none = r by
          rw [er]
          refine cut_at ?_
          rw [Str.length_append, show clS.length = 2 by decide +kernel]
          omega]
        refine ⟨⟨by decide +kernel, by omega⟩, ?_⟩
        ((try conv => whnf) <;> repeat ((first | (refine Ite.mt ?_ ?_; focus (first | rfl | (simp; done) | (simp; omega))) | (refine Ite.mf ?_ ?_; focus (first | rfl | (simp; done) | (simp; omega))) | (refine And.intro ?_ ?_; focus (first | rfl | decide | (simp; done) | (simp; omega) | omega))) <;> (try conv => whnf)))
        have hlen := hl'.len b5
        refine ⟨⟨rfl, by rw [List.length_map]; exact Nat.le_trans sl (by omega)⟩, ?_⟩
        refine lcW_pureA D.str (fun w => some (gwD t w)) _ _ (fun w hw K acc hK => ?_) ?_
        · ((try conv => whnf) <;> repeat ((first | (refine Ite.mt ?_ ?_; focus (first | rfl | (simp; done) | (simp; omega))) | (refine Ite.mf ?_ ?_; focus (first | rfl | (simp; done) | (simp; omega))) | (refine And.intro ?_ ?_; focus (first | rfl | decide | (simp; done) | (simp; omega) | omega))) <;> (try conv => whnf)))
          refine ⟨trivial, ?_⟩
          ((try conv => whnf) <;> repeat ((first | (refine Ite.mt ?_ ?_; focus (first | rfl | (simp; done) | (simp; omega))) | (refine Ite.mf ?_ ?_; focus (first | rfl | (simp; done) | (simp; omega))) | (refine And.intro ?_ ?_; focus (first | rfl | decide | (simp; done) | (simp; omega) | omega))) <;> (try conv => whnf)))
          refine ⟨⟨rfl, st_kinds l _, by unfold stKs stVs; rw [List.length_map, List.length_map]⟩, ?_⟩
          ((try conv => whnf) <;> repeat ((first | (refine Ite.mt ?_ ?_; focus (first | rfl | (simp; done) | (simp; omega))) | (refine Ite.mf ?_ ?_; focus (first | rfl | (simp; done) | (simp; omega))) | (refine And.intro ?_ ?_; focus (first | rfl | decide | (simp; done) | (simp; omega) | omega))) <;> (try conv => whnf)))
          rcases gw_in b5 hl' w with ⟨i, y, g1, g2, g3⟩ | ⟨g1, g2⟩
          · refine .inl ⟨i, y, g1, g2, ?_⟩
            rw [← g3]
            exact hK
          · refine .inr ⟨g1, ?_⟩
            have hK : K (acc ++ [gwD t w]) _ S := hK
            rw [g2] at hK
            exact hK
        rw [List.nil_append, List.filterMap_eq_map']
        rw [read_fin b1 b5 a0 at'] at q
        ((try conv => whnf) <;> repeat ((first | (refine Ite.mt ?_ ?_; focus (first | rfl | (simp; done) | (simp; omega))) | (refine Ite.mf ?_ ?_; focus (first | rfl | (simp; done) | (simp; omega))) | (refine And.intro ?_ ?_; focus (first | rfl | decide | (simp; done) | (simp; omega) | omega))) <;> (try conv => whnf)))
        have sl : (Txt.split r (", " : Str)).length ≤ r.length + 2 := sl
        generalize hws : Txt.split r (", " : Str) = ws at *
        refine ⟨⟨rfl, by rw [List.length_map]; omega⟩, ?_⟩
        refine lcW_pureA (gwD t) (bareF t) _ _ (fun w hw K acc hK => ?_) ?_
        · rcases gw_cases (t := t) w with ⟨e, _⟩ | ⟨s, e, _⟩
          · have hb : bareF t w = none := by unfold bareF; rw [e]; rfl
            rw [hb] at hK
            rw [e]
            rw [show acc ++ (none : Option D).toList = acc from List.append_nil acc] at hK
            ((try conv => whnf) <;> repeat ((first | (refine Ite.mt ?_ ?_; focus (first | rfl | (simp; done) | (simp; omega))) | (refine Ite.mf ?_ ?_; focus (first | rfl | (simp; done) | (simp; omega))) | (refine And.intro ?_ ?_; focus (first | rfl | decide | (simp; done) | (simp; omega) | omega))) <;> (try conv => whnf)))
            exact hK
          · have hb : bareF t w = if ncB s.d = true then some s.d else none := by
              unfold bareF
              rw [e, if_neg (by cases s <;> exact fun z => nomatch z)]
            rw [hb] at hK
            rw [e]
            cases s with
            | clip a' b' =>
              rw [show acc ++ (if ncB (Stg.clip a' b').d = true then some (Stg.clip a' b').d else none).toList = acc from List.append_nil acc] at hK
              ((try conv => whnf) <;> repeat ((first | (refine Ite.mt ?_ ?_; focus (first | rfl | (simp; done) | (simp; omega))) | (refine Ite.mf ?_ ?_; focus (first | rfl | (simp; done) | (simp; omega))) | (refine And.intro ?_ ?_; focus (first | rfl | decide | (simp; done) | (simp; omega) | omega))) <;> (try conv => whnf)))
              exact hK
            | slew a' b' => ((try conv => whnf) <;> repeat ((first | (refine Ite.mt ?_ ?_; focus (first | rfl | (simp; done) | (simp; omega))) | (refine Ite.mf ?_ ?_; focus (first | rfl | (simp; done) | (simp; omega))) | (refine And.intro ?_ ?_; focus (first | rfl | decide | (simp; done) | (simp; omega) | omega))) <;> (try conv => whnf))); exact hK
            | gate a' b' => ((try conv => whnf) <;> repeat ((first | (refine Ite.mt ?_ ?_; focus (first | rfl | (simp; done) | (simp; omega))) | (refine Ite.mf ?_ ?_; focus (first | rfl | (simp; done) | (simp; omega))) | (refine And.intro ?_ ?_; focus (first | rfl | decide | (simp; done) | (simp; omega) | omega))) <;> (try conv => whnf))); exact hK
            | hold a' => ((try conv => whnf) <;> repeat ((first | (refine Ite.mt ?_ ?_; focus (first | rfl | (simp; done) | (simp; omega))) | (refine Ite.mf ?_ ?_; focus (first | rfl | (simp; done) | (simp; omega))) | (refine And.intro ?_ ?_; focus (first | rfl | decide | (simp; done) | (simp; omega) | omega))) <;> (try conv => whnf))); exact hK
        rw [List.nil_append]
        ((try conv => whnf) <;> repeat ((first | (refine Ite.mt ?_ ?_; focus (first | rfl | (simp; done) | (simp; omega))) | (refine Ite.mf ?_ ?_; focus (first | rfl | (simp; done) | (simp; omega))) | (refine And.intro ?_ ?_; focus (first | rfl | decide | (simp; done) | (simp; omega) | omega))) <;> (try conv => whnf)))
        have dd : datd (.tup (ws.map (gwD t))) 2 = true := datd_tupE (by rw [List.length_map]; omega) fun d hd => by
          obtain ⟨w, hw, rfl⟩ := List.mem_map.mp hd
          rcases gw_cases (t := t) w with ⟨e, _⟩ | ⟨s, e, _⟩
          · rw [e]; rfl
          · rw [e]; exact datd_stg s
        refine ⟨⟨rfl, datd_cmp dd (by decide)⟩, ?_⟩
        (conv => whnf)
        by_cases hn : anyN t ws = false
        · refine Ite.mt (show (!anyN t ws) = true by rw [hn]; rfl) ?_
          (conv => whnf)
          by_cases h4 : ws.length < 4
          · refine Ite.mt (by simp; omega) ?_
            (conv => whnf)
            by_cases h3 : (ws.filterMap (bareF t)).length < 3
            · refine Ite.mt (by simp; omega) ?_
              ((try conv => whnf) <;> repeat ((first | (refine Ite.mt ?_ ?_; focus (first | rfl | (simp; done) | (simp; omega))) | (refine Ite.mf ?_ ?_; focus (first | rfl | (simp; done) | (simp; omega))) | (refine And.intro ?_ ?_; focus (first | rfl | decide | (simp; done) | (simp; omega) | omega))) <;> (try conv => whnf)))
              rw [if_pos ⟨hn, h4, h3⟩] at q
              exact q
            · refine Ite.mf (by simp; omega) ?_
              ((try conv => whnf) <;> repeat ((first | (refine Ite.mt ?_ ?_; focus (first | rfl | (simp; done) | (simp; omega))) | (refine Ite.mf ?_ ?_; focus (first | rfl | (simp; done) | (simp; omega))) | (refine And.intro ?_ ?_; focus (first | rfl | decide | (simp; done) | (simp; omega) | omega))) <;> (try conv => whnf)))
              rw [if_neg fun z => h3 z.2.2] at q
              exact q
          · refine Ite.mf (by simp; omega) ?_
            ((try conv => whnf) <;> repeat ((first | (refine Ite.mt ?_ ?_; focus (first | rfl | (simp; done) | (simp; omega))) | (refine Ite.mf ?_ ?_; focus (first | rfl | (simp; done) | (simp; omega))) | (refine And.intro ?_ ?_; focus (first | rfl | decide | (simp; done) | (simp; omega) | omega))) <;> (try conv => whnf)))
            rw [if_neg fun z => h4 z.2.1] at q
            exact q
        · refine Ite.mf (show (!anyN t ws) = false by rw [Bool.not_eq_false'] ; simpa using hn) ?_
          ((try conv => whnf) <;> repeat ((first | (refine Ite.mt ?_ ?_; focus (first | rfl | (simp; done) | (simp; omega))) | (refine Ite.mf ?_ ?_; focus (first | rfl | (simp; done) | (simp; omega))) | (refine And.intro ?_ ?_; focus (first | rfl | decide | (simp; done) | (simp; omega) | omega))) <;> (try conv => whnf)))
          rw [if_neg fun z => hn z.1] at q
          exact q
      · refine Ite.mf (by simpa using h2) ?_
        ((try conv => whnf) <;> repeat ((first | (refine Ite.mt ?_ ?_; focus (first | rfl | (simp; done) | (simp; omega))) | (refine Ite.mf ?_ ?_; focus (first | rfl | (simp; done) | (simp; omega))) | (refine And.intro ?_ ?_; focus (first | rfl | decide | (simp; done) | (simp; omega) | omega))) <;> (try conv => whnf)))
        refine hK ⟨h1, fun r e => h2 ((starts_iff _ _).mpr ⟨r, e⟩)⟩ _ _
end VC

set_option Elab.async false
set_option linter.all false
set_option maxRecDepth 100000
set_option maxHeartbeats 4000000
/-! EM: plain: what is told of the law's texts. -/
namespace VC
open PySem PySem.Spec PyProof.Rows L2
theorem mem_join {y : Str} {c : Nat} : ∀ {l : List Str}, c ∉ cs y → (∀ q ∈ l, c ∉ cs q) → c ∉ cs (Str.join y l)
  | [], _, _ => fun h => by cases h
  | [a], _, h => h a (List.mem_singleton.mpr rfl)
  | a :: b :: l, hy, h => by
    show c ∉ cs (a ++ y ++ Str.join y (b :: l))
    rw [cs_app, cs_app]
    intro hc
    rcases List.mem_append.mp hc with hc | hc
    · rcases List.mem_append.mp hc with hc | hc
      · exact h a (List.mem_cons_self ..) hc
      · exact hy hc
    · exact mem_join hy (fun q hq => h q (List.mem_cons_of_mem _ hq)) hc
theorem stg_no {t : Int} {s : Stg} (ok : s.Ok t) (t5 : t ≤ 5) {c : Nat} (hc : c = 58 ∨ c = 10 ∨ c = 44) : c ∉ cs (stgX s) := by
  have three : ∀ (k : Str) (a b : Int), c ∉ cs k → 0 ≤ a → a ≤ 5 → 0 ≤ b → b ≤ 5 → c ∉ cs (Str.join spS [k, digS a, digS b]) := fun k a b hk a0 a5 b0 b5 => mem_join (by rw [sp_cs, List.mem_singleton]; omega) fun x hx => by
    simp only [List.mem_cons, List.not_mem_nil, or_false] at hx
    rcases hx with rfl | rfl | rfl
    · exact hk
    · exact dig_no a0 (by omega) (by omega)
    · exact dig_no b0 (by omega) (by omega)
  have k1 : c ∉ cs ("slew" : Str) := by rcases hc with rfl | rfl | rfl <;> decide +kernel
  have k2 : c ∉ cs ("clip" : Str) := by rcases hc with rfl | rfl | rfl <;> decide +kernel
  have k3 : c ∉ cs ("gate" : Str) := by rcases hc with rfl | rfl | rfl <;> decide +kernel
  have k4 : c ∉ cs ("hold" : Str) := by rcases hc with rfl | rfl | rfl <;> decide +kernel
  cases s with
  | slew u d => obtain ⟨h1, h2, h3, h4⟩ := ok; exact three "slew" u d k1 h1 h2 h3 h4
  | clip l h' => obtain ⟨h1, h2, h3, h4⟩ := ok; exact three "clip" l h' k2 h1 (by omega) (by omega) (by omega)
  | gate l h' => obtain ⟨h1, h2, h3, h4⟩ := ok; exact three "gate" l h' k3 h1 (by omega) (by omega) (by omega)
  | hold w =>
    obtain ⟨h1, h2⟩ := ok
    exact mem_join (by rw [sp_cs, List.mem_singleton]; omega) fun x hx => by
      simp only [List.mem_cons, List.not_mem_nil, or_false] at hx
      rcases hx with rfl | rfl
      · exact k4
      · exact dig_no (by omega) (by omega) (by omega)
variable {c : Chn}
theorem chx_no (ok : c.Ok) : 10 ∉ cs (chX c) := by
  have t1 := ok.t1
  have t5 := ok.t5
  have s0 := ok.s0
  have s1 := ok.st
  have hd := hd_no (show 0 ≤ c.top by omega) (show c.top ≤ 9 by omega) s0 (show c.start ≤ 9 by omega) (c := 10) (.inr (.inl rfl))
  unfold chX
  split
  · exact hd
  · rw [cs_app, cs_app]
    intro h
    rcases List.mem_append.mp h with h | h
    · rcases List.mem_append.mp h with h | h
      · exact hd h
      · rw [cl_cs] at h; simp at h
    · refine mem_join ?_ ?_ h
      · rw [cm_cs]; decide
      · intro q hq
        obtain ⟨s, hs, rfl⟩ := List.mem_map.mp hq
        exact stg_no (ok.ok s hs) t5 (.inr (.inl rfl))
theorem chx_tx (ok : c.Ok) : Tx (chX c) := by
  have t1 := ok.t1
  have t5 := ok.t5
  have s0 := ok.s0
  have s1 := ok.st
  have hd := tx_hd (show 0 ≤ c.top by omega) (show c.top ≤ 9 by omega) s0 (show c.start ≤ 9 by omega)
  unfold chX
  split
  · exact hd
  · refine tx_app (tx_app hd (tx_small (by decide +kernel))) (tx_join (tx_small (by decide +kernel)) fun x hx => ?_)
    obtain ⟨s, hs, rfl⟩ := List.mem_map.mp hx
    exact tx_stg (ok.ok s hs) t5
theorem chx_len (ok : c.Ok) : (chX c).length ≤ 60 ∧ 8 ≤ (chX c).length := by
  have t1 := ok.t1
  have t5 := ok.t5
  have s0 := ok.s0
  have s1 := ok.st
  have hl := hd_len (show 0 ≤ c.top by omega) (show c.top ≤ 9 by omega) s0 (show c.start ≤ 9 by omega)
  unfold chX
  split
  · omega
  · have sl : ∀ x ∈ c.stages.map stgX, x.length ≤ 8 := fun x hx => by
      obtain ⟨s, hs, rfl⟩ := List.mem_map.mp hx
      exact stg_len (ok.ok s hs) t5
    have ln := ok.len
    have sm := sum_le sl
    have jl := StrLaws.join_length_le cmS (c.stages.map stgX)
    have cl : cmS.length = 2 := by decide +kernel
    have cl2 : clS.length = 2 := by decide +kernel
    rw [List.length_map] at sm jl
    rw [cl] at jl
    rw [Str.length_append, Str.length_append]
    omega
theorem chx_line (ok : c.Ok) : lineD (chX c) = c.d := by
  have t1 := ok.t1
  have t5 := ok.t5
  have s0 := ok.s0
  have s1 := ok.st
  by_cases hs : c.stages = []
  · unfold chX
    rw [if_pos hs, line_hdD t1 t5 s0 s1, Chn.d, hs]
    rfl
  · unfold chX
    rw [if_neg hs, line_stD t1 t5 s0 s1, split_join cm_cs k_cm (by simpa using hs) fun q hq => ?_]
    · rw [List.map_map, show (c.stages.map (stageD ∘ stgX)) = c.stages.map Stg.d from List.map_congr_left fun s hs => stage_stgX t5 (ok.ok s hs)]
      exact onlyC_t (chnB_on ok)
    · obtain ⟨s, hs, rfl⟩ := List.mem_map.mp hq
      exact stg_no (ok.ok s hs) t5 (.inr (.inr rfl))
theorem bad_none : ∀ {l : List Str} {k : Nat}, (∀ x ∈ l, (lineD x).isNon = false) → badAt l k = none
  | [], _, _ => rfl
  | x :: l, k, h => by
    show (if (lineD x).isNon = true then some k else badAt l (k + 1)) = none
    rw [h x (List.mem_cons_self ..), if_neg (fun z => nomatch z)]
    exact bad_none fun y hy => h y (List.mem_cons_of_mem _ hy)
theorem lines_join {l : List Str} (hl : ∀ x ∈ l, 10 ∉ cs x ∧ 8 ≤ x.length) : linesX (Str.join nlS l) = l := by
  unfold linesX
  cases l with
  | nil => rfl
  | cons a l =>
    have h1 : 8 ≤ (Str.join nlS (a :: l)).length := Nat.le_trans (hl a (List.mem_cons_self ..)).2 (join_len (List.mem_cons_self ..))
    rw [if_neg fun e => ?_]
    · exact split_join nl_cs k_nl (by simp) fun q hq => (hl q hq).1
    · rw [e] at h1
      exact absurd h1 (by decide +kernel)
theorem told_all {l : List Chn} (ok : ∀ c ∈ l, c.Ok) : dueD (Str.join nlS (l.map chX)) = .tup (l.map Chn.d) := by
  have e : linesX (Str.join nlS (l.map chX)) = l.map chX := lines_join fun x hx => by
    obtain ⟨c, hc, rfl⟩ := List.mem_map.mp hx
    exact ⟨chx_no (ok c hc), (chx_len (ok c hc)).2⟩
  unfold dueD
  rw [e, bad_none fun x hx => ?_]
  · show D.tup ((l.map chX).map lineD) = _
    rw [List.map_map, show l.map (lineD ∘ chX) = l.map Chn.d from List.map_congr_left fun c hc => chx_line (ok c hc)]
  · obtain ⟨c, hc, rfl⟩ := List.mem_map.mp hx
    rw [chx_line (ok c hc)]
    rfl
theorem joined_len {l : List Chn} (ok : ∀ c ∈ l, c.Ok) (h4 : l.length ≤ 4) : (Str.join nlS (l.map chX)).length ≤ 300 := by
  have sl : ∀ x ∈ l.map chX, x.length ≤ 60 := fun x hx => by
    obtain ⟨c, hc, rfl⟩ := List.mem_map.mp hx
    exact (chx_len (ok c hc)).1
  have sm := sum_le sl
  have jl := StrLaws.join_length_le nlS (l.map chX)
  rw [List.length_map] at sm jl
  rw [show nlS.length = 1 from rfl] at jl
  omega
theorem joined_tx {l : List Chn} (ok : ∀ c ∈ l, c.Ok) : Tx (Str.join nlS (l.map chX)) := tx_join (tx_small (by decide +kernel)) fun x hx => by
  obtain ⟨c, hc, rfl⟩ := List.mem_map.mp hx
  exact chx_tx (ok c hc)
theorem cut_sub {x : Str} {lo hi : Option Int} {c : Nat} (h : c ∈ cs (cutS x lo hi)) : c ∈ cs x := List.mem_of_mem_drop (List.mem_of_mem_take h)
theorem cut_tx {x : Str} {lo hi : Option Int} (h : Tx x) : Tx (cutS x lo hi) := fun c hc => h c (cut_sub hc)
theorem cutS_len {x : Str} {lo hi : Option Int} : (cutS x lo hi).length ≤ x.length := by
  rw [← cs_len, ← cs_len]
  show (((cs x).drop _).take _).length ≤ _
  rw [List.length_take, List.length_drop]
  omega
theorem datd_line (x : Str) : datd (lineD x) 3 = true := by
  rw [lineD_eq]
  generalize lineW (Txt.split (Txt.partition x clS).1 spS) (Txt.partition x clS).2.1 (Txt.partition x clS).2.2 = d
  cases hc : chnB d with
  | false => rw [onlyC_f hc]; rfl
  | true =>
    rw [onlyC_t hc]
    obtain ⟨t, s, ps, rfl⟩ := chnB_inv hc
    simp only [chnB, Bool.and_eq_true, decide_eq_true_eq, List.all_eq_true] at hc
    obtain ⟨_, h2, h3, h4, _⟩ := hc
    obtain ⟨i, rfl, _⟩ := fromB_int h2
    refine datd_tupE (show 3 ≤ 1000000 by decide) fun d hd => ?_
    simp only [List.mem_cons, List.not_mem_nil, or_false] at hd
    rcases hd with rfl | rfl | rfl
    · rfl
    · rfl
    · refine datd_tupE (by omega) fun d hd => ?_
      obtain ⟨s, rfl, _⟩ := stgB_of (h4 d hd)
      exact datd_stg s
theorem datd_due {x : Str} (hl : x.length ≤ 10000) (tx : Tx x) : datd (dueD x) 8 = true := by
  unfold dueD
  split
  · rfl
  · refine datd_mono (.tup _) 4 8 (datd_tupE ?_ fun d hd => ?_) (by decide)
    · rw [List.length_map]
      have := (lines_ok hl tx).1
      omega
    · obtain ⟨y, _, rfl⟩ := List.mem_map.mp hd
      exact datd_line y
/-! ### the odd texts -/
abbrev oneS : Str := ⟨#[49, 32, 102, 114, 111, 109, 32, 49, 10]⟩
theorem one_eq : oneS = hdX 1 1 ++ nlS := by decide +kernel
theorem due_wrong {w : Str} (h : 10 ∉ cs w) (hw : (lineD w).isNon = true) : dueD (oneS ++ w) = .int 2 := by
  have e : linesX (oneS ++ w) = [hdX 1 1, w] := by
    have hn : ¬ oneS ++ w = "" := fun e => by
      have := congrArg Str.length e
      rw [Str.length_append, show oneS.length = 9 by decide +kernel, show ("" : Str).length = 0 by decide +kernel] at this
      omega
    unfold linesX
    rw [if_neg hn, one_eq]
    refine split_join (qs := [hdX 1 1, w]) nl_cs k_nl (by simp) fun q hq => ?_
    simp only [List.mem_cons, List.not_mem_nil, or_false] at hq
    rcases hq with rfl | rfl
    · exact hd_no (by decide) (by decide) (by decide) (by decide) (.inr (.inl rfl))
    · exact h
  have hb : badAt [hdX 1 1, w] 0 = some 1 := by
    show (if (lineD (hdX 1 1)).isNon = true then some 0 else if (lineD w).isNon = true then some 1 else none) = some 1
    rw [line_hdD (by decide) (by decide) (by decide) (by decide), if_neg (fun z => nomatch z), if_pos hw]
  unfold dueD
  rw [e, hb]
  rfl
theorem wrong1 : (lineD ("3 from 0: " : Str)).isNon = true := by decide +kernel
theorem wrong2 : (lineD ("3 from 0:" : Str)).isNon = true := by decide +kernel
theorem wrong3 : (lineD ("3 from 0: hold 1,hold 1" : Str)).isNon = true := by decide +kernel
theorem wrong4 : (lineD ("3 from 0: hold 1, " : Str)).isNon = true := by decide +kernel
theorem wrong5 : (lineD ("03 from 0" : Str)).isNon = true := by decide +kernel
theorem wrong6 : (lineD ("+3 from 0" : Str)).isNon = true := by decide +kernel
def longS : Str := ⟨(List.replicate 360 49).toArray⟩
theorem mul_long : Txt.mul ("1" : Str) 360 = longS := by decide +kernel
theorem long_cs : cs longS = List.replicate 360 49 := rfl
theorem fig_long : figD longS = .non := by
  have e : cs longS = 49 :: 49 :: List.replicate 358 49 := rfl
  unfold figD
  rw [e]
theorem wrong7 : (lineD (("3 from 0: hold " : Str) ++ longS)).isNon = true := by
  have e : ("3 from 0: hold " : Str) ++ longS = hdX 3 0 ++ clS ++ Str.join spS ["hold", longS] := by
    have e0 : ("3 from 0: hold " : Str) = hdX 3 0 ++ clS ++ (("hold" : Str) ++ spS) := by decide +kernel
    rw [e0, Str.append_assoc _ _ longS]
    rfl
  have hn : ∀ c, c = 32 ∨ c = 44 → c ∉ cs longS := fun c hc h => by
    rw [long_cs] at h
    have := (List.mem_replicate.mp h).2
    omega
  rw [e, line_stD (by decide) (by decide) (by decide) (by decide)]
  have e2 : Txt.split (Str.join spS ["hold", longS]) cmS = [Str.join spS ["hold", longS]] := by
    refine split_join (qs := [Str.join spS ["hold", longS]]) cm_cs k_cm (by simp) fun q hq => ?_
    rw [List.mem_singleton.mp hq]
    refine mem_join (by decide +kernel) fun x hx => ?_
    simp only [List.mem_cons, List.not_mem_nil, or_false] at hx
    rcases hx with rfl | rfl
    · decide +kernel
    · exact hn 44 (.inr rfl)
  have e3 : stageD (Str.join spS ["hold", longS]) = .tup [.str "hold", .non] := by
    unfold stageD
    rw [split_sp (by simp) fun q hq => ?_]
    · show D.tup [.str "hold", figD longS] = _
      rw [fig_long]
    · simp only [List.mem_cons, List.not_mem_nil, or_false] at hq
      rcases hq with rfl | rfl
      · decide +kernel
      · exact hn 32 (.inl rfl)
  rw [e2, List.map_cons, List.map_nil, e3]
  rfl
theorem due_five : dueD (⟨#[53, 32, 102, 114, 111, 109, 32, 53, 10]⟩ : Str) = .int 2 := by
  have h : badAt (linesX (⟨#[53, 32, 102, 114, 111, 109, 32, 53, 10]⟩ : Str)) 0 = some 1 := by decide +kernel
  unfold dueD
  rw [h]
  rfl
theorem due_nl : dueD nlS = .int 1 := by
  have h : badAt (linesX nlS) 0 = some 0 := by decide +kernel
  unfold dueD
  rw [h]
  rfl
theorem due_no : dueD "" = .tup [] := rfl
end VC

set_option Elab.async false
set_option linter.all false
set_option maxRecDepth 100000
set_option maxHeartbeats 4000000
/-! L01b: the law's own checks. -/
namespace VC
open PySem PySem.Spec PyProof.Rows L2
def wholeB : D → Bool
  | .int _ => true
  | _ => false
def sp__law_whole : FSpec := fun ds S R _ => ∃ v : D, ds = [v] ∧ v.pl = true ∧ R (.val (.bl (wholeB v))) S
def sp__law_is_stage : FSpec := fun ds S R _ => ∃ (t : Int) (v : D) (n : Nat), ds = [.int t, v] ∧ datd v n = true ∧ R (.val (.bl (stgB t v))) S
def sp__law_is : FSpec := fun ds S R _ => ∃ (v : D) (n : Nat), ds = [v] ∧ datd v n = true ∧ R (.val (.bl (chnB v))) S
theorem fm_none {α β : Type} {f : α → Option β} : ∀ {l : List α}, (∀ a ∈ l, f a = none) → l.filterMap f = []
  | [], _ => rfl
  | a :: l, h => by rw [List.filterMap_cons, h a (by simp), fm_none fun b hb => h b (by simp [hb])]
theorem fm_ones {f : D → Bool} : ∀ (l : List D), (l.filterMap fun p => if f p = true then none else some (D.int 1)) = List.replicate (l.filter fun p => !f p).length (D.int 1)
  | [] => rfl
  | a :: l => by
    rw [List.filterMap_cons, List.filter_cons, fm_ones l]
    cases h : f a <;> simp [h, List.replicate_succ]
end VC

set_option Elab.async false
set_option linter.all false
set_option maxRecDepth 100000
set_option maxHeartbeats 4000000
/-! L01c: changed data; the law k01. -/
namespace VC
open PySem PySem.Spec PyProof.Rows L2
mutual
/-- data of depth n at most, of L items at most each -/
def datL (L : Nat) : D → Nat → Bool
  | .non, _ => true
  | .bl _, _ => true
  | .int _, _ => true
  | .str x, _ => PyData.strOk x
  | .tup xs, n => match n with
    | 0 => false
    | n + 1 => decide (xs.length ≤ L) && datLs L xs n
  | .lst xs, n => match n with
    | 0 => false
    | n + 1 => decide (xs.length ≤ L) && datLs L xs n
  | .dct _ _, _ => false
  | .ref _, _ => false
  | .fn _, _ => false
  | .kst _, _ => false
  | .opq, _ => false
def datLs (L : Nat) : List D → Nat → Bool
  | [], _ => true
  | x :: xs, n => datL L x n && datLs L xs n
end
mutual
theorem datL_mono {L M : Nat} (hL : L ≤ M) : ∀ (d : D) (n m : Nat), datL L d n = true → n ≤ m → datL M d m = true
  | .non, _, _, _, _ => rfl
  | .bl _, _, _, _, _ => rfl
  | .int _, _, _, _, _ => rfl
  | .str _, _, _, h, _ => by simpa [datL] using h
  | .tup xs, n, m, h, k => by
    cases n with
    | zero => simp [datL] at h
    | succ n =>
      cases m with
      | zero => omega
      | succ m =>
        simp only [datL, Bool.and_eq_true, decide_eq_true_eq] at h ⊢
        exact ⟨by omega, datLs_mono hL xs n m h.2 (by omega)⟩
  | .lst xs, n, m, h, k => by
    cases n with
    | zero => simp [datL] at h
    | succ n =>
      cases m with
      | zero => omega
      | succ m =>
        simp only [datL, Bool.and_eq_true, decide_eq_true_eq] at h ⊢
        exact ⟨by omega, datLs_mono hL xs n m h.2 (by omega)⟩
  | .dct _ _, _, _, h, _ => by simp [datL] at h
  | .ref _, _, _, h, _ => by simp [datL] at h
  | .fn _, _, _, h, _ => by simp [datL] at h
  | .kst _, _, _, h, _ => by simp [datL] at h
  | .opq, _, _, h, _ => by simp [datL] at h
theorem datLs_mono {L M : Nat} (hL : L ≤ M) : ∀ (ds : List D) (n m : Nat), datLs L ds n = true → n ≤ m → datLs M ds m = true
  | [], _, _, _, _ => rfl
  | x :: xs, n, m, h, k => by
    simp only [datLs, Bool.and_eq_true] at h ⊢
    exact ⟨datL_mono hL x n m h.1 k, datLs_mono hL xs n m h.2 k⟩
end
mutual
theorem datL_d {L : Nat} (hL : L ≤ 1000000) : ∀ (d : D) (n : Nat), datL L d n = true → datd d n = true
  | .non, _, _ => rfl
  | .bl _, _, _ => rfl
  | .int _, _, _ => rfl
  | .str _, _, h => by simpa [datL, datd] using h
  | .tup xs, n, h => by
    cases n with
    | zero => simp [datL] at h
    | succ n =>
      simp only [datL, datd, Bool.and_eq_true, decide_eq_true_eq] at h ⊢
      exact ⟨by omega, datLs_d hL xs n h.2⟩
  | .lst xs, n, h => by
    cases n with
    | zero => simp [datL] at h
    | succ n =>
      simp only [datL, datd, Bool.and_eq_true, decide_eq_true_eq] at h ⊢
      exact ⟨by omega, datLs_d hL xs n h.2⟩
  | .dct _ _, _, h => by simp [datL] at h
  | .ref _, _, h => by simp [datL] at h
  | .fn _, _, h => by simp [datL] at h
  | .kst _, _, h => by simp [datL] at h
  | .opq, _, h => by simp [datL] at h
theorem datLs_d {L : Nat} (hL : L ≤ 1000000) : ∀ (ds : List D) (n : Nat), datLs L ds n = true → datds ds n = true
  | [], _, _ => rfl
  | x :: xs, n, h => by
    simp only [datLs, datds, Bool.and_eq_true] at h ⊢
    exact ⟨datL_d hL x n h.1, datLs_d hL xs n h.2⟩
end
theorem datLs_iff {L n : Nat} : ∀ {ds : List D}, datLs L ds n = true ↔ ∀ d ∈ ds, datL L d n = true
  | [] => by simp [datLs]
  | x :: xs => by simp [datLs, datLs_iff]
def sp__law_one : FSpec := fun ds S R _ => ∃ (r : Nat) (xs : List D) (n : Int), ds = [.ref r, .lst xs] ∧ Deck n r S ∧ n < 2 ^ 32 ∧ 0 < xs.length ∧ xs.length < 1000000 ∧ ∀ x S', x ∈ xs → Deck (n + 1) r S' → But1 r S S' → R (.val x) S'
theorem vc__law_one (ds S R) (h : sp__law_one ds S R (fun _ _ => False)) : wf_law_one sp__law_pick (ENDS R) (env0 2 ds) S := by
  obtain ⟨r, xs, n, rfl, dk, hn, l0, l1, q⟩ := h
  ((try conv => whnf) <;> repeat ((first | (refine Ite.mt ?_ ?_; focus (first | rfl | (simp; done) | (simp; omega))) | (refine Ite.mf ?_ ?_; focus (first | rfl | (simp; done) | (simp; omega))) | (refine And.intro ?_ ?_; focus (first | rfl | decide | (simp; done) | (simp; omega) | omega))) <;> (try conv => whnf)))
  refine ⟨r, _, n, rfl, dk, hn, by omega, by omega, fun k S1 k0 k1 d1 b1 => ?_⟩
  obtain ⟨i, rfl⟩ := Int.eq_ofNat_of_zero_le k0
  have hi : i < xs.length := by omega
  (conv => whnf)
  rw [atD_nat (List.getElem?_eq_getElem hi)]
  ((try conv => whnf) <;> repeat ((first | (refine Ite.mt ?_ ?_; focus (first | rfl | (simp; done) | (simp; omega))) | (refine Ite.mf ?_ ?_; focus (first | rfl | (simp; done) | (simp; omega))) | (refine And.intro ?_ ?_; focus (first | rfl | decide | (simp; done) | (simp; omega) | omega))) <;> (try conv => whnf)))
  exact q _ S1 (List.getElem_mem hi) d1 b1
def sp__law_changed (N : Nat) : FSpec := fun ds S R _ => ∃ (r : Nat) (d : D) (m L : Nat) (n : Int), ds = [.ref r, d] ∧ m ≤ N ∧ L ≤ 1000 ∧ datL L d m = true ∧ Deck n r S ∧ n + 10 * ((m : Int) + 1) < 2 ^ 32 ∧
  ∀ (t : T) S', datL (2 * L + 1) t.d (m + 1) = true → Deck (n + 10 * ((m : Int) + 1)) r S' → But1 r S S' → R t S'
def tlW (sp__law_pick sp__law_one : FSpec) : WS :=
  (wSeq (wSet 4 (wLst (wAC (wC .non) (wAC (wC (.bl true)) (wAC (wC (.bl false)) (wAC (wC (.int 0)) (wAC (wC (.int 1)) (wAC (wC (.int 2)) (wAC (wC (.int 3)) (wAC (wC (.int 5)) (wAC (wC (.int 6)) (wAC (wC (.int (-1))) (wAC (wC (.str "hold")) (wAC (wC (.str "slew")) (wAC (wC (.str "gate")) (wAC (wC (.str "clip")) (wAC (wC (.str "x")) (wAC (wTup wA0) (wAC (wLst wA0) (wAC (wB opPow (oE (wC (.int 10))) (oE (wC (.int 30)))) wA0))))))))))))))))))))
  (wSeq (wIfS (wAnd (wTst (wIsi isInt (oV 1))) (wTst (wB (opEq false) (oE (wCall 2 sp__law_pick (wAC (wV 0) (wAC (wC (.int 2)) wA0)))) (oE (wC (.int 0))))))
  (wRet (wB opAdd (oV 1) (oE (wCall 2 sp__law_one (wAC (wV 0) (wAC (wLst (wAC (wC (.int 1)) (wAC (wC (.int (-1))) wA0))) wA0))))))
  wNil)
  (wRet (wIf (wAnd (wTst (wIsi isTup (oV 1))) (wTst (wB (opEq false) (oE (wCall 2 sp__law_pick (wAC (wV 0) (wAC (wC (.int 3)) wA0)))) (oE (wC (.int 0)))))) (wCB opListX (wUC (oV 1) wA0)) (wCall 2 sp__law_one (wAC (wV 0) (wAC (wV 4) wA0)))))))
end VC

set_option Elab.async false
set_option linter.all false
set_option maxRecDepth 100000
set_option maxHeartbeats 4000000
/-! EN: the law k23. -/
namespace VC
open PySem PySem.Spec PyProof.Rows L2
def k23sgn (sp__law_told : FSpec) (sp__law_same : FSpec) (sp__law_due : FSpec) (sp__law_pick : FSpec) (sp__law_one : FSpec) : WS :=
  (wSeq (wSet 7 (wCall 2 sp__law_pick (wAC (wV 2) (wAC (wB opAdd (oE (wCB opLenX (wUC (oV 5) wA0))) (oE (wC (.int 1)))) wA0))))
  (wSeq (wSet 8 (wCall 2 sp__law_one (wAC (wV 2) (wAC (wLst (wAC (wC (.str " ")) (wAC (wC (.str ",")) (wAC (wC (.str ":")) (wAC (wC (.str "0")) (wAC (wC (.str "2")) (wAC (wC (.str "6")) (wAC (wC (.str "-")) (wAC (wC (.str "s")) (wAC (wC (.str ⟨#[10]⟩)) (wAC (wC (.str "")) (wAC (wC (.str "x")) (wAC (wC (.str " from ")) wA0))))))))))))) wA0))))
  (wSeq (wSet 9 (wB opAdd (oE (wB opAdd (oE (wSlT (oV 5) pN (pS (wV 7)))) (oV 8))) (oE (wSlT (oV 5) (pS (wB opAdd (oV 7) (oE (wCall 2 sp__law_pick (wAC (wV 2) (wAC (wC (.int 2)) wA0)))))) pN))))
  (wIfS (wNot (wTst (wCall 2 sp__law_same (wAC (wCall 1 sp__law_told (wAC (wV 9) wA0)) (wAC (wCall 1 sp__law_due (wAC (wV 9) wA0)) wA0)))))
  (wRet (wC (.bl false)))
  wNil))))
def k23cell (sp__law_told : FSpec) (sp__law_same : FSpec) (sp__law_pick : FSpec) (sp_chain_text : FSpec) (sp__law_text : FSpec) (sp__law_chain : FSpec) (sp__law_deck : FSpec) (T_k23sgn : WS) : WS :=
  (wSeq (wPub 2 (wCall 2 sp__law_deck (wAC (wB opIxX (oE (wB opAdd (oV 0) (oE (wB opMul (oE (wLst (wAC (wC (.int 0)) wA0))) (oE (wC (.int 8))))))) (oV 1)) (wAC (wV 1) wA0))))
  (wSeq (wSet 3 (wCB opTuple (wUC (oE (wLc [6] (iR1 (wAC (wCall 2 sp__law_pick (wAC (wV 2) (wAC (wC (.int 5)) wA0))) wA0)) (gN 6) wYes (wCall 3 sp__law_chain (wAC (wV 2) (wAC (wC (.int 5)) (wAC (wC (.int 3)) wA0)))))) wA0)))
  (wSeq (wSet 4 (wLc [12] (iW (wV 3)) (gN 12) wYes (wCall 1 sp__law_text (wAC (wV 12) wA0))))
  (wSeq (wIfS (wOr (wTst (wB (opEq true) (oE (wLc [12] (iW (wV 3)) (gN 12) wYes (wCall 1 sp_chain_text (wAC (wV 12) wA0)))) (oV 4))) (wNot (wTst (wCall 2 sp__law_same (wAC (wCall 1 sp__law_told (wAC (wSM opJoin (oE (wC (.str ⟨#[10]⟩))) (oV 4)) wA0)) (wAC (wV 3) wA0))))))
  (wRet (wC (.bl false)))
  wNil)
  (wSeq (wSet 5 (wSM opJoin (oE (wC (.str ⟨#[10]⟩))) (oV 4)))
  (wFor (iR1 (wAC (wC (.int 8)) wA0)) (gN 6)
  T_k23sgn))))))
def k23wrg (sp__law_told : FSpec) : WS :=
  (wIfS (wTst (wB (opEq true) (oE (wCall 1 sp__law_told (wAC (wB opAdd (oE (wC (.str ⟨#[49, 32, 102, 114, 111, 109, 32, 49, 10]⟩))) (oV 10)) wA0))) (oE (wC (.int 2)))))
  (wRet (wC (.bl false)))
  wNil)
def k23end (sp__law_told : FSpec) (T_k23wrg : WS) : WS :=
  (wSeq (wSet 11 (wLst (wAC (wC (.str "3 from 0: ")) (wAC (wC (.str "3 from 0:")) (wAC (wC (.str "3 from 0: hold 1,hold 1")) (wAC (wC (.str "3 from 0: hold 1, ")) (wAC (wC (.str "03 from 0")) (wAC (wC (.str "+3 from 0")) wA0))))))))
  (wSeq (wFor (iW (wB opAdd (oV 11) (oE (wLst (wAC (wB opAdd (oE (wC (.str "3 from 0: hold "))) (oE (wB opMulS (oE (wC (.str "1"))) (oE (wC (.int 360)))))) wA0))))) (gN 10)
  T_k23wrg)
  (wRet (vAnd (wB (opEq false) (oE (wCall 1 sp__law_told (wAC (wC (.str ⟨#[53, 32, 102, 114, 111, 109, 32, 53, 10]⟩)) wA0))) (oE (wC (.int 2)))) (vAnd (wB (opEq false) (oE (wCall 1 sp__law_told (wAC (wC (.str "")) wA0))) (oE (wTup wA0))) (wB (opEq false) (oE (wCall 1 sp__law_told (wAC (wC (.str ⟨#[10]⟩)) wA0))) (oE (wC (.int 1)))))))))
def k23odd (sp__law_told : FSpec) (spx_read_chains : FSpec) : WS :=
  (wIfS (wOr (wTst (wB (opEq true) (oE (wCall 1 sp__law_told (wAC (wV 10) wA0))) (oE (wC (.int 0))))) (wTst (wB (opEq true) (oE (wTryD 0 "law" (fun Ex2 => (wCallX 1 spx_read_chains Ex2 (wAC (wV 10) wA0))))) (oE (wC (.str "Text+"))))))
  (wRet (wC (.bl false)))
  wNil)
def k23head (T_k23cell : WS) (T_k23end : WS) (T_k23odd : WS) : WS :=
  (wSeq (wFor (iR1 (wAC (wC (.int 8)) wA0)) (gN 1)
  T_k23cell)
  (wSeq (wFor (iW (wTup (wAC (wC .non) (wAC (wC (.int 3)) (wAC (wLst wA0) (wAC (wTup wA0) wA0)))))) (gN 10)
  T_k23odd)
  T_k23end))
theorem k23_form (sp__law_told : FSpec) (sp__law_same : FSpec) (sp__law_due : FSpec) (sp__law_pick : FSpec) (sp__law_one : FSpec) (sp_chain_text : FSpec) (sp__law_text : FSpec) (sp__law_chain : FSpec) (sp__law_deck : FSpec) (spx_read_chains : FSpec) : wf_law_k23 sp__law_told sp__law_same sp__law_due sp__law_pick sp__law_one sp_chain_text sp__law_text sp__law_chain sp__law_deck spx_read_chains = k23head (k23cell sp__law_told sp__law_same sp__law_pick sp_chain_text sp__law_text sp__law_chain sp__law_deck (k23sgn sp__law_told sp__law_same sp__law_due sp__law_pick sp__law_one)) (k23end sp__law_told (k23wrg sp__law_told)) (k23odd sp__law_told spx_read_chains) := rfl
@[reducible] def e23 (x0 x1 x2 x3 x4 x5 x6 x7 x8 x9 x10 x11 x12 : Option T) : VEnv := [x0, x1, x2, x3, x4, x5, x6, x7, x8, x9, x10, x11, x12]
def signs : List Str := [" ", ",", ":", "0", "2", "6", "-", "s", nlS, "", "x", " from "]
theorem sign_ok {x : D} (h : x ∈ signs.map D.str) : ∃ z : Str, x = .str z ∧ z.length ≤ 10 ∧ Tx z := by
  obtain ⟨z, hz, rfl⟩ := List.mem_map.mp h
  have : ∀ z ∈ signs, z.length ≤ 10 ∧ (cs z).all (· < 200) = true := by decide +kernel
  obtain ⟨a, b⟩ := this z hz
  exact ⟨z, rfl, a, tx_small b⟩
theorem wFor_toW {Wi : WA} {G : WG} {W : WS} {D0 : WEnds} {e : VEnv} {S : Sto} (h : ∀ F : WS, F = W → wFor Wi G F D0 e S) : wFor Wi G W D0 e S := h _ rfl
def NV23 (t : Option T) : Prop := t = none ∨ ∃ d, t = some (.val d)
section
variable {x0 x1 x3 x4 x6 x7 x8 x9 x10 x11 x12 : Option T} {rd : Nat} {n : Int} {S : Sto} {D0 : WEnds}
theorem k23_sgn {x : Str} (hx : x.length ≤ 300) (tx : Tx x) (dk : Deck n rd S) (hn : n + 10 < 2 ^ 32) (hD : ∀ t7 t8 t9 S', Deck (n + 3) rd S' → But1 rd S S' → D0.nx (e23 x0 x1 (some (.val (.ref rd))) x3 x4 (some (.val (.str x))) x6 t7 t8 t9 x10 x11 x12) S') :
    k23sgn sp__law_told (sp__law_same 8) sp__law_due sp__law_pick sp__law_one D0 (e23 x0 x1 (some (.val (.ref rd))) x3 x4 (some (.val (.str x))) x6 x7 x8 x9 x10 x11 x12) S := by
  unfold k23sgn
  have hx1 : x.length ≤ sizeLine := th40 (by omega)
  ((try conv => whnf) <;> repeat ((first | (refine Ite.mt ?_ ?_; focus (first | rfl | (simp; done) | (simp; omega))) | (refine Ite.mf ?_ ?_; focus (first | rfl | (simp; done) | (simp; omega))) | (refine And.intro ?_ ?_; focus (first | rfl | decide | (simp; done) | (simp; omega) | omega))) <;> (try conv => whnf)))
  refine ⟨rd, _, n, rfl, dk, by omega, by omega, by omega, fun k S1 k0 k1 d1 b1 => ?_⟩
  ((try conv => whnf) <;> repeat ((first | (refine Ite.mt ?_ ?_; focus (first | rfl | (simp; done) | (simp; omega))) | (refine Ite.mf ?_ ?_; focus (first | rfl | (simp; done) | (simp; omega))) | (refine And.intro ?_ ?_; focus (first | rfl | decide | (simp; done) | (simp; omega) | omega))) <;> (try conv => whnf)))
  refine ⟨rd, _, n + 1, rfl, d1, by omega, (show 0 < 12 by decide), (show 12 < 1000000 by decide), fun z S2 hz d2 b2 => ?_⟩
  obtain ⟨z, rfl, zl, ztx⟩ := sign_ok (x := z) hz
  ((try conv => whnf) <;> repeat ((first | (refine Ite.mt ?_ ?_; focus (first | rfl | (simp; done) | (simp; omega))) | (refine Ite.mf ?_ ?_; focus (first | rfl | (simp; done) | (simp; omega))) | (refine And.intro ?_ ?_; focus (first | rfl | decide | (simp; done) | (simp; omega) | omega))) <;> (try conv => whnf)))
  have c1 : (cutS x none (some k)).length ≤ x.length := cutS_len
  refine ⟨Nat.le_trans (show _ ≤ 1000 by omega) (by decide), ?_⟩
  ((try conv => whnf) <;> repeat ((first | (refine Ite.mt ?_ ?_; focus (first | rfl | (simp; done) | (simp; omega))) | (refine Ite.mf ?_ ?_; focus (first | rfl | (simp; done) | (simp; omega))) | (refine And.intro ?_ ?_; focus (first | rfl | decide | (simp; done) | (simp; omega) | omega))) <;> (try conv => whnf)))
  refine ⟨rd, 2, n + 1 + 1, rfl, d2, by omega, by omega, by omega, fun j S3 j0 j1 d3 b3 => ?_⟩
  ((try conv => whnf) <;> repeat ((first | (refine Ite.mt ?_ ?_; focus (first | rfl | (simp; done) | (simp; omega))) | (refine Ite.mf ?_ ?_; focus (first | rfl | (simp; done) | (simp; omega))) | (refine And.intro ?_ ?_; focus (first | rfl | decide | (simp; done) | (simp; omega) | omega))) <;> (try conv => whnf)))
  have c2 : (cutS x (some (k + j)) none).length ≤ x.length := cutS_len
  have hz : ((cutS x none (some k) ++ z).length) + (cutS x (some (k + j)) none).length ≤ 1000 := by rw [Str.length_append]; omega
  refine ⟨Nat.le_trans hz (by decide), ?_⟩
  have ty : Tx (cutS x none (some k) ++ z ++ cutS x (some (k + j)) none) := tx_app (tx_app (cut_tx tx) ztx) (cut_tx tx)
  have ly : (cutS x none (some k) ++ z ++ cutS x (some (k + j)) none).length ≤ 10000 := by rw [Str.length_append]; omega
  generalize cutS x none (some k) ++ z ++ cutS x (some (k + j)) none = y at *
  ((try conv => whnf) <;> repeat ((first | (refine Ite.mt ?_ ?_; focus (first | rfl | (simp; done) | (simp; omega))) | (refine Ite.mf ?_ ?_; focus (first | rfl | (simp; done) | (simp; omega))) | (refine And.intro ?_ ?_; focus (first | rfl | decide | (simp; done) | (simp; omega) | omega))) <;> (try conv => whnf)))
  refine .inl ⟨y, rfl, ly, ty, ?_⟩
  ((try conv => whnf) <;> repeat ((first | (refine Ite.mt ?_ ?_; focus (first | rfl | (simp; done) | (simp; omega))) | (refine Ite.mf ?_ ?_; focus (first | rfl | (simp; done) | (simp; omega))) | (refine And.intro ?_ ?_; focus (first | rfl | decide | (simp; done) | (simp; omega) | omega))) <;> (try conv => whnf)))
  refine ⟨y, rfl, ly, ty, ?_⟩
  ((try conv => whnf) <;> repeat ((first | (refine Ite.mt ?_ ?_; focus (first | rfl | (simp; done) | (simp; omega))) | (refine Ite.mf ?_ ?_; focus (first | rfl | (simp; done) | (simp; omega))) | (refine And.intro ?_ ?_; focus (first | rfl | decide | (simp; done) | (simp; omega) | omega))) <;> (try conv => whnf)))
  refine ⟨_, rfl, datd_due ly ty, ?_⟩
  ((try conv => whnf) <;> repeat ((first | (refine Ite.mt ?_ ?_; focus (first | rfl | (simp; done) | (simp; omega))) | (refine Ite.mf ?_ ?_; focus (first | rfl | (simp; done) | (simp; omega))) | (refine And.intro ?_ ?_; focus (first | rfl | decide | (simp; done) | (simp; omega) | omega))) <;> (try conv => whnf)))
  exact hD _ _ _ S3 (by rw [show n + 3 = n + 1 + 1 + 1 by omega]; exact d3) ⟨b3.1.trans (b2.1.trans b1.1), fun i hi => (b3.2 i hi).trans ((b2.2 i hi).trans (b1.2 i hi))⟩
theorem k23_odd {x2 x5 : Option T} {v : D} (hv : v.pl = true) (hs : isStrD v = false) (tb : S[0]? = some (.tbl "law")) (hD : D0.nx (e23 x0 x1 x2 x3 x4 x5 x6 x7 x8 x9 (some (.val v)) x11 x12) S) :
    k23odd sp__law_told spx_read_chains D0 (e23 x0 x1 x2 x3 x4 x5 x6 x7 x8 x9 (some (.val v)) x11 x12) S := by
  unfold k23odd
  ((try conv => whnf) <;> repeat ((first | (refine Ite.mt ?_ ?_; focus (first | rfl | (simp; done) | (simp; omega))) | (refine Ite.mf ?_ ?_; focus (first | rfl | (simp; done) | (simp; omega))) | (refine And.intro ?_ ?_; focus (first | rfl | decide | (simp; done) | (simp; omega) | omega))) <;> (try conv => whnf)))
  refine .inr ⟨v, rfl, hv, hs, ?_⟩
  ((try conv => whnf) <;> repeat ((first | (refine Ite.mt ?_ ?_; focus (first | rfl | (simp; done) | (simp; omega))) | (refine Ite.mf ?_ ?_; focus (first | rfl | (simp; done) | (simp; omega))) | (refine And.intro ?_ ?_; focus (first | rfl | decide | (simp; done) | (simp; omega) | omega))) <;> (try conv => whnf)))
  first | refine ⟨tb, _, _, ?_, fun _ _ h => h, fun _ _ _ h => h⟩ | refine ⟨_, _, ?_, fun _ _ h => h, fun _ _ _ h => h⟩
  ((try conv => whnf) <;> repeat ((first | (refine Ite.mt ?_ ?_; focus (first | rfl | (simp; done) | (simp; omega))) | (refine Ite.mf ?_ ?_; focus (first | rfl | (simp; done) | (simp; omega))) | (refine And.intro ?_ ?_; focus (first | rfl | decide | (simp; done) | (simp; omega) | omega))) <;> (try conv => whnf)))
  refine .inr ⟨v, rfl, hv, hs, "Text+", rfl, ?_⟩
  ((try conv => whnf) <;> repeat ((first | (refine Ite.mt ?_ ?_; focus (first | rfl | (simp; done) | (simp; omega))) | (refine Ite.mf ?_ ?_; focus (first | rfl | (simp; done) | (simp; omega))) | (refine And.intro ?_ ?_; focus (first | rfl | decide | (simp; done) | (simp; omega) | omega))) <;> (try conv => whnf)))
  exact hD
theorem k23_wrg {x2 x5 : Option T} {w : Str} (hl : w.length ≤ 400) (tw : Tx w) (h10 : 10 ∉ cs w) (hw : (lineD w).isNon = true) (hD : D0.nx (e23 x0 x1 x2 x3 x4 x5 x6 x7 x8 x9 (some (.val (.str w))) x11 x12) S) :
    k23wrg sp__law_told D0 (e23 x0 x1 x2 x3 x4 x5 x6 x7 x8 x9 (some (.val (.str w))) x11 x12) S := by
  unfold k23wrg
  have l9 : oneS.length = 9 := by decide +kernel
  ((try conv => whnf) <;> repeat ((first | (refine Ite.mt ?_ ?_; focus (first | rfl | (simp; done) | (simp; omega))) | (refine Ite.mf ?_ ?_; focus (first | rfl | (simp; done) | (simp; omega))) | (refine And.intro ?_ ?_; focus (first | rfl | decide | (simp; done) | (simp; omega) | omega))) <;> (try conv => whnf)))
  refine ⟨Nat.le_trans (show oneS.length + w.length ≤ 1000 by omega) (by decide), ?_⟩
  ((try conv => whnf) <;> repeat ((first | (refine Ite.mt ?_ ?_; focus (first | rfl | (simp; done) | (simp; omega))) | (refine Ite.mf ?_ ?_; focus (first | rfl | (simp; done) | (simp; omega))) | (refine And.intro ?_ ?_; focus (first | rfl | decide | (simp; done) | (simp; omega) | omega))) <;> (try conv => whnf)))
  refine .inl ⟨oneS ++ w, rfl, by rw [Str.length_append]; omega, tx_app (tx_small (by decide +kernel)) tw, ?_⟩
  rw [due_wrong h10 hw]
  ((try conv => whnf) <;> repeat ((first | (refine Ite.mt ?_ ?_; focus (first | rfl | (simp; done) | (simp; omega))) | (refine Ite.mf ?_ ?_; focus (first | rfl | (simp; done) | (simp; omega))) | (refine And.intro ?_ ?_; focus (first | rfl | decide | (simp; done) | (simp; omega) | omega))) <;> (try conv => whnf)))
  exact hD
theorem k23_end {x2 x5 : Option T} {W : WS} (hW : ∀ (w : Str) (D0 : WEnds) (x11 : Option T), w.length ≤ 400 → Tx w → 10 ∉ cs w → (lineD w).isNon = true → D0.nx (e23 x0 x1 x2 x3 x4 x5 x6 x7 x8 x9 (some (.val (.str w))) x11 x12) S → W D0 (e23 x0 x1 x2 x3 x4 x5 x6 x7 x8 x9 (some (.val (.str w))) x11 x12) S)
    (hD : D0.rt (.val (.bl true)) S) :
    k23end sp__law_told W D0 (e23 x0 x1 x2 x3 x4 x5 x6 x7 x8 x9 x10 x11 x12) S := by
  unfold k23end
  ((try conv => whnf) <;> repeat ((first | (refine Ite.mt ?_ ?_; focus (first | rfl | (simp; done) | (simp; omega))) | (refine Ite.mf ?_ ?_; focus (first | rfl | (simp; done) | (simp; omega))) | (refine And.intro ?_ ?_; focus (first | rfl | decide | (simp; done) | (simp; omega) | omega))) <;> (try conv => whnf)))
  refine ⟨by unfold MulOk; exact ⟨by decide +kernel, fun _ _ => by decide +kernel, fun _ _ => by decide +kernel⟩, ?_⟩
  rw [show Txt.mul ("1" : Str) 360 = longS from mul_long]
  ((try conv => whnf) <;> repeat ((first | (refine Ite.mt ?_ ?_; focus (first | rfl | (simp; done) | (simp; omega))) | (refine Ite.mf ?_ ?_; focus (first | rfl | (simp; done) | (simp; omega))) | (refine And.intro ?_ ?_; focus (first | rfl | decide | (simp; done) | (simp; omega) | omega))) <;> (try conv => whnf)))
  refine hW _ _ _ (by decide +kernel) (tx_small (by decide +kernel)) (by decide +kernel) wrong1 ?_
  ((try conv => whnf) <;> repeat ((first | (refine Ite.mt ?_ ?_; focus (first | rfl | (simp; done) | (simp; omega))) | (refine Ite.mf ?_ ?_; focus (first | rfl | (simp; done) | (simp; omega))) | (refine And.intro ?_ ?_; focus (first | rfl | decide | (simp; done) | (simp; omega) | omega))) <;> (try conv => whnf)))
  refine hW _ _ _ (by decide +kernel) (tx_small (by decide +kernel)) (by decide +kernel) wrong2 ?_
  ((try conv => whnf) <;> repeat ((first | (refine Ite.mt ?_ ?_; focus (first | rfl | (simp; done) | (simp; omega))) | (refine Ite.mf ?_ ?_; focus (first | rfl | (simp; done) | (simp; omega))) | (refine And.intro ?_ ?_; focus (first | rfl | decide | (simp; done) | (simp; omega) | omega))) <;> (try conv => whnf)))
  refine hW _ _ _ (by decide +kernel) (tx_small (by decide +kernel)) (by decide +kernel) wrong3 ?_
  ((try conv => whnf) <;> repeat ((first | (refine Ite.mt ?_ ?_; focus (first | rfl | (simp; done) | (simp; omega))) | (refine Ite.mf ?_ ?_; focus (first | rfl | (simp; done) | (simp; omega))) | (refine And.intro ?_ ?_; focus (first | rfl | decide | (simp; done) | (simp; omega) | omega))) <;> (try conv => whnf)))
  refine hW _ _ _ (by decide +kernel) (tx_small (by decide +kernel)) (by decide +kernel) wrong4 ?_
  ((try conv => whnf) <;> repeat ((first | (refine Ite.mt ?_ ?_; focus (first | rfl | (simp; done) | (simp; omega))) | (refine Ite.mf ?_ ?_; focus (first | rfl | (simp; done) | (simp; omega))) | (refine And.intro ?_ ?_; focus (first | rfl | decide | (simp; done) | (simp; omega) | omega))) <;> (try conv => whnf)))
  refine hW _ _ _ (by decide +kernel) (tx_small (by decide +kernel)) (by decide +kernel) wrong5 ?_
  ((try conv => whnf) <;> repeat ((first | (refine Ite.mt ?_ ?_; focus (first | rfl | (simp; done) | (simp; omega))) | (refine Ite.mf ?_ ?_; focus (first | rfl | (simp; done) | (simp; omega))) | (refine And.intro ?_ ?_; focus (first | rfl | decide | (simp; done) | (simp; omega) | omega))) <;> (try conv => whnf)))
  refine hW _ _ _ (by decide +kernel) (tx_small (by decide +kernel)) (by decide +kernel) wrong6 ?_
  ((try conv => whnf) <;> repeat ((first | (refine Ite.mt ?_ ?_; focus (first | rfl | (simp; done) | (simp; omega))) | (refine Ite.mf ?_ ?_; focus (first | rfl | (simp; done) | (simp; omega))) | (refine And.intro ?_ ?_; focus (first | rfl | decide | (simp; done) | (simp; omega) | omega))) <;> (try conv => whnf)))
  refine hW _ _ _ (by decide +kernel) (tx_small (by decide +kernel)) (by decide +kernel) wrong7 ?_
  ((try conv => whnf) <;> repeat ((first | (refine Ite.mt ?_ ?_; focus (first | rfl | (simp; done) | (simp; omega))) | (refine Ite.mf ?_ ?_; focus (first | rfl | (simp; done) | (simp; omega))) | (refine And.intro ?_ ?_; focus (first | rfl | decide | (simp; done) | (simp; omega) | omega))) <;> (try conv => whnf)))
  refine .inl ⟨_, rfl, by decide +kernel, tx_small (by decide +kernel), ?_⟩
  rw [due_five]
  ((try conv => whnf) <;> repeat ((first | (refine Ite.mt ?_ ?_; focus (first | rfl | (simp; done) | (simp; omega))) | (refine Ite.mf ?_ ?_; focus (first | rfl | (simp; done) | (simp; omega))) | (refine And.intro ?_ ?_; focus (first | rfl | decide | (simp; done) | (simp; omega) | omega))) <;> (try conv => whnf)))
  refine .inl ⟨"", rfl, by decide +kernel, tx_small (by decide +kernel), ?_⟩
  rw [due_no]
  ((try conv => whnf) <;> repeat ((first | (refine Ite.mt ?_ ?_; focus (first | rfl | (simp; done) | (simp; omega))) | (refine Ite.mf ?_ ?_; focus (first | rfl | (simp; done) | (simp; omega))) | (refine And.intro ?_ ?_; focus (first | rfl | decide | (simp; done) | (simp; omega) | omega))) <;> (try conv => whnf)))
  refine ⟨⟨rfl, rfl⟩, ?_⟩
  ((try conv => whnf) <;> repeat ((first | (refine Ite.mt ?_ ?_; focus (first | rfl | (simp; done) | (simp; omega))) | (refine Ite.mf ?_ ?_; focus (first | rfl | (simp; done) | (simp; omega))) | (refine And.intro ?_ ?_; focus (first | rfl | decide | (simp; done) | (simp; omega) | omega))) <;> (try conv => whnf)))
  refine .inl ⟨nlS, rfl, by decide +kernel, tx_small (by decide +kernel), ?_⟩
  rw [due_nl]
  ((try conv => whnf) <;> repeat ((first | (refine Ite.mt ?_ ?_; focus (first | rfl | (simp; done) | (simp; omega))) | (refine Ite.mf ?_ ?_; focus (first | rfl | (simp; done) | (simp; omega))) | (refine And.intro ?_ ?_; focus (first | rfl | decide | (simp; done) | (simp; omega) | omega))) <;> (try conv => whnf)))
  exact hD
theorem k23_cell {W : WS} {ns : List Int} {i : Nat} (hn : ns.length ≤ 63) (hi : i < 8) {x2 x5 : Option T} (h6 : NV23 x6)
    (hW : ∀ (D0 : WEnds) (x : Str) (n : Int) (x3 x4 x6 x7 x8 x9 : Option T) (S' : Sto), x.length ≤ 300 → Tx x → Deck n S.length S' → n + 10 < 2 ^ 32 → (∀ t7 t8 t9 S2, Deck (n + 3) S.length S2 → But1 S.length S' S2 → D0.nx (e23 (some (.val (.kst (ns.map D.int)))) (some (.val (.int (0 + (i : Int))))) (some (.val (.ref S.length))) x3 x4 (some (.val (.str x))) x6 t7 t8 t9 x10 x11 none) S2) →
      W D0 (e23 (some (.val (.kst (ns.map D.int)))) (some (.val (.int (0 + (i : Int))))) (some (.val (.ref S.length))) x3 x4 (some (.val (.str x))) x6 x7 x8 x9 x10 x11 none) S')
    (hD : ∀ x3 x4 x5 x6 x7 x8 x9 S', NV23 x6 → (∀ j, j < S.length → S'[j]? = S[j]?) → D0.nx (e23 (some (.val (.kst (ns.map D.int)))) (some (.val (.int (0 + (i : Int))))) (some (.val (.ref S.length))) x3 x4 x5 x6 x7 x8 x9 x10 x11 none) S') :
    k23cell sp__law_told (sp__law_same 8) sp__law_pick sp_chain_text sp__law_text sp__law_chain sp__law_deck W D0 (e23 (some (.val (.kst (ns.map D.int)))) (some (.val (.int (0 + (i : Int))))) x2 x3 x4 x5 x6 x7 x8 x9 x10 x11 none) S := by
  unfold k23cell
  ((try conv => whnf) <;> repeat ((first | (refine Ite.mt ?_ ?_; focus (first | rfl | (simp; done) | (simp; omega))) | (refine Ite.mf ?_ ?_; focus (first | rfl | (simp; done) | (simp; omega))) | (refine And.intro ?_ ?_; focus (first | rfl | decide | (simp; done) | (simp; omega) | omega))) <;> (try conv => whnf)))
  obtain ⟨x, hx⟩ := script_at ns 8 i hi
  refine ⟨th40 (by simp; omega), ?_⟩
  ((try conv => whnf) <;> repeat ((first | (refine Ite.mt ?_ ?_; focus (first | rfl | (simp; done) | (simp; omega))) | (refine Ite.mf ?_ ?_; focus (first | rfl | (simp; done) | (simp; omega))) | (refine And.intro ?_ ?_; focus (first | rfl | decide | (simp; done) | (simp; omega) | omega))) <;> (try conv => whnf)))
  rw [hx]
  ((try conv => whnf) <;> repeat ((first | (refine Ite.mt ?_ ?_; focus (first | rfl | (simp; done) | (simp; omega))) | (refine Ite.mf ?_ ?_; focus (first | rfl | (simp; done) | (simp; omega))) | (refine And.intro ?_ ?_; focus (first | rfl | decide | (simp; done) | (simp; omega) | omega))) <;> (try conv => whnf)))
  refine ⟨x, _, rfl, by omega, fun m hm => ?_⟩
  have dk : Deck 100 S.length (S ++ [m]) := ⟨m, by simp, by obtain ⟨a, b, c, e, h1, h2, h3, h4⟩ := hm; exact ⟨a, b, c, e, h1, h2, h3, by omega⟩⟩
  have keep : ∀ j, j < S.length → (S ++ [m])[j]? = S[j]? := fun j hj => List.getElem?_append_left hj
  ((try conv => whnf) <;> repeat ((first | (refine Ite.mt ?_ ?_; focus (first | rfl | (simp; done) | (simp; omega))) | (refine Ite.mf ?_ ?_; focus (first | rfl | (simp; done) | (simp; omega))) | (refine And.intro ?_ ?_; focus (first | rfl | decide | (simp; done) | (simp; omega) | omega))) <;> (try conv => whnf)))
  refine ⟨S.length, 5, 100, rfl, dk, by decide, by decide, by decide, fun k S1 k0 k1 d1 b1 => ?_⟩
  have rl : (rngD 0 k.toNat).length ≤ 4 := by rw [show (rngD 0 k.toNat).length = k.toNat by simp [rngD]]; omega
  ((try conv => whnf) <;> repeat ((first | (refine Ite.mt ?_ ?_; focus (first | rfl | (simp; done) | (simp; omega))) | (refine Ite.mf ?_ ?_; focus (first | rfl | (simp; done) | (simp; omega))) | (refine And.intro ?_ ?_; focus (first | rfl | decide | (simp; done) | (simp; omega) | omega))) <;> (try conv => whnf)))
  refine ⟨⟨by rcases h6 with rfl | ⟨d, rfl⟩ <;> rfl, by omega⟩, ?_⟩
  refine lcW_rng (fun j acc e s => ∃ l : List Chn, acc = l.map Chn.d ∧ (∀ c ∈ l, c.Ok) ∧ l.length = j ∧ e = e23 (some (.val (.kst (ns.map D.int)))) (some (.val (.int (0 + (i : Int))))) (some (.val (.ref S.length))) x3 x4 x5 none x7 x8 x9 x10 x11 none ∧ Deck (101 + 50 * (j : Int)) S.length s ∧ But1 S.length (S ++ [m]) s) (fun acc e s h => ?_) (fun j acc e s K hj h hK => ?_) ⟨[], rfl, ⟨(fun c h => nomatch h), rfl, rfl, d1, b1⟩⟩
  · obtain ⟨l, rfl, hl, hk, rfl, d2, b2⟩ := h
    have l4 : l.length ≤ 4 := by omega
    have hn' := joined_len hl l4
    have tx := joined_tx hl
    have told := told_all hl
    have dd : datd (.lst ((l.map chX).map D.str)) 2 = true := datd_lstS (by rw [List.length_map]; omega) fun x hx => by
      obtain ⟨c, hc, rfl⟩ := List.mem_map.mp hx
      exact chx_tx (hl c hc)
    have dt : datd (.tup (l.map Chn.d)) 8 = true := datd_mono (.tup _) 4 8 (datd_tupE (by rw [List.length_map]; omega) fun d hd => by
      obtain ⟨c, hc, rfl⟩ := List.mem_map.mp hd
      exact datd_chn (hl c hc)) (by decide)
    have sz : ((l.map chX).map (·.length)).sum + (l.map chX).length * nlS.length ≤ 16777216 := by
      have sm := sum_le (l := l.map chX) (m := 60) fun x hx => by
        obtain ⟨c, hc, rfl⟩ := List.mem_map.mp hx
        exact (chx_len (hl c hc)).1
      rw [List.length_map] at sm ⊢
      rw [show nlS.length = 1 from rfl]
      omega
    have em : (l.map fun c => D.str (chX c)) = (l.map chX).map D.str := by rw [List.map_map]; rfl
    ((try conv => whnf) <;> repeat ((first | (refine Ite.mt ?_ ?_; focus (first | rfl | (simp; done) | (simp; omega))) | (refine Ite.mf ?_ ?_; focus (first | rfl | (simp; done) | (simp; omega))) | (refine And.intro ?_ ?_; focus (first | rfl | decide | (simp; done) | (simp; omega) | omega))) <;> (try conv => whnf)))
    refine ⟨⟨rfl, by rw [List.length_map]; omega⟩, ?_⟩
    refine lcW_pureA Chn.d (fun c => some (.str (chX c))) _ _ (fun c hc K acc hK => ?_) ?_
    · ((try conv => whnf) <;> repeat ((first | (refine Ite.mt ?_ ?_; focus (first | rfl | (simp; done) | (simp; omega))) | (refine Ite.mf ?_ ?_; focus (first | rfl | (simp; done) | (simp; omega))) | (refine And.intro ?_ ?_; focus (first | rfl | decide | (simp; done) | (simp; omega) | omega))) <;> (try conv => whnf)))
      refine ⟨c, rfl, hl c hc, ?_⟩
      ((try conv => whnf) <;> repeat ((first | (refine Ite.mt ?_ ?_; focus (first | rfl | (simp; done) | (simp; omega))) | (refine Ite.mf ?_ ?_; focus (first | rfl | (simp; done) | (simp; omega))) | (refine And.intro ?_ ?_; focus (first | rfl | decide | (simp; done) | (simp; omega) | omega))) <;> (try conv => whnf)))
      exact hK
    rw [List.nil_append, List.filterMap_eq_map', em]
    ((try conv => whnf) <;> repeat ((first | (refine Ite.mt ?_ ?_; focus (first | rfl | (simp; done) | (simp; omega))) | (refine Ite.mf ?_ ?_; focus (first | rfl | (simp; done) | (simp; omega))) | (refine And.intro ?_ ?_; focus (first | rfl | decide | (simp; done) | (simp; omega) | omega))) <;> (try conv => whnf)))
    refine ⟨⟨rfl, by rw [List.length_map]; omega⟩, ?_⟩
    refine lcW_pureA Chn.d (fun c => some (.str (chX c))) _ _ (fun c hc K acc hK => ?_) ?_
    · ((try conv => whnf) <;> repeat ((first | (refine Ite.mt ?_ ?_; focus (first | rfl | (simp; done) | (simp; omega))) | (refine Ite.mf ?_ ?_; focus (first | rfl | (simp; done) | (simp; omega))) | (refine And.intro ?_ ?_; focus (first | rfl | decide | (simp; done) | (simp; omega) | omega))) <;> (try conv => whnf)))
      refine ⟨c, rfl, hl c hc, ?_⟩
      ((try conv => whnf) <;> repeat ((first | (refine Ite.mt ?_ ?_; focus (first | rfl | (simp; done) | (simp; omega))) | (refine Ite.mf ?_ ?_; focus (first | rfl | (simp; done) | (simp; omega))) | (refine And.intro ?_ ?_; focus (first | rfl | decide | (simp; done) | (simp; omega) | omega))) <;> (try conv => whnf)))
      exact hK
    rw [List.nil_append, List.filterMap_eq_map', em]
    ((try conv => whnf) <;> repeat ((first | (refine Ite.mt ?_ ?_; focus (first | rfl | (simp; done) | (simp; omega))) | (refine Ite.mf ?_ ?_; focus (first | rfl | (simp; done) | (simp; omega))) | (refine And.intro ?_ ?_; focus (first | rfl | decide | (simp; done) | (simp; omega) | omega))) <;> (try conv => whnf)))
    refine ⟨⟨datd_cmp dd (by decide), datd_cmp dd (by decide)⟩, ?_⟩
    (conv => whnf)
    refine Ite.mf (show (!D.eqv (.lst ((l.map chX).map D.str)) (.lst ((l.map chX).map D.str))) = false by rw [eqv_refl _ 2 dd]; rfl) ?_
    ((try conv => whnf) <;> repeat ((first | (refine Ite.mt ?_ ?_; focus (first | rfl | (simp; done) | (simp; omega))) | (refine Ite.mf ?_ ?_; focus (first | rfl | (simp; done) | (simp; omega))) | (refine And.intro ?_ ?_; focus (first | rfl | decide | (simp; done) | (simp; omega) | omega))) <;> (try conv => whnf)))
    refine ⟨l.map chX, rfl, sz, ?_⟩
    rw [join_eq]
    ((try conv => whnf) <;> repeat ((first | (refine Ite.mt ?_ ?_; focus (first | rfl | (simp; done) | (simp; omega))) | (refine Ite.mf ?_ ?_; focus (first | rfl | (simp; done) | (simp; omega))) | (refine And.intro ?_ ?_; focus (first | rfl | decide | (simp; done) | (simp; omega) | omega))) <;> (try conv => whnf)))
    refine .inl ⟨Str.join nlS (l.map chX), rfl, by omega, tx, ?_⟩
    rw [told]
    ((try conv => whnf) <;> repeat ((first | (refine Ite.mt ?_ ?_; focus (first | rfl | (simp; done) | (simp; omega))) | (refine Ite.mf ?_ ?_; focus (first | rfl | (simp; done) | (simp; omega))) | (refine And.intro ?_ ?_; focus (first | rfl | decide | (simp; done) | (simp; omega) | omega))) <;> (try conv => whnf)))
    refine ⟨_, rfl, dt, ?_⟩
    ((try conv => whnf) <;> repeat ((first | (refine Ite.mt ?_ ?_; focus (first | rfl | (simp; done) | (simp; omega))) | (refine Ite.mf ?_ ?_; focus (first | rfl | (simp; done) | (simp; omega))) | (refine And.intro ?_ ?_; focus (first | rfl | decide | (simp; done) | (simp; omega) | omega))) <;> (try conv => whnf)))
    refine ⟨l.map chX, rfl, sz, ?_⟩
    rw [join_eq]
    (conv => whnf)
    refine ⟨⟨by omega, by omega⟩, ?_⟩
    refine forW_rng (fun j e s' => ∃ y6 t7 t8 t9 : Option T, e = e23 (some (.val (.kst (ns.map D.int)))) (some (.val (.int (0 + (i : Int))))) (some (.val (.ref S.length))) (some (.val (.tup (l.map Chn.d)))) (some (.own (.lst ((l.map chX).map D.str)))) (some (.val (.str (Str.join nlS (l.map chX))))) y6 t7 t8 t9 x10 x11 none ∧ NV23 y6 ∧ Deck (400 + 3 * (j : Int)) S.length s' ∧ But1 S.length (S ++ [m]) s') (fun e s' h => ?_) (fun j e s' K hj h hK => ?_) ⟨_, _, _, _, rfl, h6, d2.mono (by omega), b2⟩
    · obtain ⟨y6, t7, t8, t9, rfl, h6', d3, b3⟩ := h
      exact hD _ _ _ _ _ _ _ s' h6' fun j hj => (b3.2 j (by omega)).trans (keep j hj)
    · obtain ⟨y6, t7, t8, t9, rfl, h6', d3, b3⟩ := h
      (conv => whnf)
      refine hW _ _ _ _ _ _ _ _ _ _ hn' tx d3 (by omega) fun t7 t8 t9 S2 d4 b4 => hK _ _ ⟨_, _, _, _, rfl, .inr ⟨_, rfl⟩, by rw [show (400 + 3 * ((j + 1 : Nat) : Int)) = 400 + 3 * (j : Int) + 3 by omega]; exact d4, ⟨b4.1.trans b3.1, fun z hz => (b4.2 z hz).trans (b3.2 z hz)⟩⟩
  · obtain ⟨l, rfl, hl, hk, rfl, d2, b2⟩ := h
    ((try conv => whnf) <;> repeat ((first | (refine Ite.mt ?_ ?_; focus (first | rfl | (simp; done) | (simp; omega))) | (refine Ite.mf ?_ ?_; focus (first | rfl | (simp; done) | (simp; omega))) | (refine And.intro ?_ ?_; focus (first | rfl | decide | (simp; done) | (simp; omega) | omega))) <;> (try conv => whnf)))
    refine ⟨_, 5, 3, _, rfl, d2, by omega, by omega, by omega, by omega, by omega, fun c S2 ok _ _ d3 b3 => ?_⟩
    ((try conv => whnf) <;> repeat ((first | (refine Ite.mt ?_ ?_; focus (first | rfl | (simp; done) | (simp; omega))) | (refine Ite.mf ?_ ?_; focus (first | rfl | (simp; done) | (simp; omega))) | (refine And.intro ?_ ?_; focus (first | rfl | decide | (simp; done) | (simp; omega) | omega))) <;> (try conv => whnf)))
    refine hK _ _ _ ⟨l ++ [c], by rw [List.map_append]; rfl, fun z hz => ?_, by rw [List.length_append, hk]; rfl, rfl, by rw [show (101 + 50 * ((j + 1 : Nat) : Int)) = 101 + 50 * (j : Int) + 50 by omega]; exact d3, ⟨b3.1.trans b2.1, fun z hz => (b3.2 z hz).trans (b2.2 z hz)⟩⟩
    rcases List.mem_append.mp hz with h | h
    · exact hl z h
    · rw [List.mem_singleton.mp h]; exact ok
end
theorem vc_law_k23 (ds S R) (h : sp_lawT ["law"] ds S R (fun _ _ => False)) : wf_law_k23 sp__law_told (sp__law_same 8) sp__law_due sp__law_pick sp__law_one sp_chain_text sp__law_text sp__law_chain sp__law_deck spx_read_chains (ENDS R) (env0 13 ds) S := by
  obtain ⟨rfl, ns, rfl, hn, q⟩ := h
  rw [k23_form]
  unfold k23head
  have ho : ∀ (ns : List Int) (x1 x2 x3 x4 x5 x6 x7 x8 x9 : Option T) (v : D) (D0 : WEnds) (S : Sto), v.pl = true → isStrD v = false → S[0]? = some (.tbl "law") → D0.nx (e23 (some (.val (.kst (ns.map D.int)))) x1 x2 x3 x4 x5 x6 x7 x8 x9 (some (.val v)) none none) S →
    k23odd sp__law_told spx_read_chains D0 (e23 (some (.val (.kst (ns.map D.int)))) x1 x2 x3 x4 x5 x6 x7 x8 x9 (some (.val v)) none none) S := fun ns x1 x2 x3 x4 x5 x6 x7 x8 x9 v D0 S hv hs tb hD => k23_odd hv hs tb hD
  have he : ∀ (ns : List Int) (x1 x2 x3 x4 x5 x6 x7 x8 x9 x10 : Option T) (D0 : WEnds) (S : Sto), D0.rt (.val (.bl true)) S →
    k23end sp__law_told (k23wrg sp__law_told) D0 (e23 (some (.val (.kst (ns.map D.int)))) x1 x2 x3 x4 x5 x6 x7 x8 x9 x10 none none) S := fun ns x1 x2 x3 x4 x5 x6 x7 x8 x9 x10 D0 S hD => k23_end (fun w D0 x11 hl tw h10 hw hD => k23_wrg hl tw h10 hw hD) hD
  generalize k23odd sp__law_told spx_read_chains = OD at *
  generalize k23end sp__law_told (k23wrg sp__law_told) = EN at *
  refine wFor_toW fun F hF => ?_
  ((try conv => whnf) <;> repeat ((first | (refine Ite.mt ?_ ?_; focus (first | rfl | (simp; done) | (simp; omega))) | (refine Ite.mf ?_ ?_; focus (first | rfl | (simp; done) | (simp; omega))) | (refine And.intro ?_ ?_; focus (first | rfl | decide | (simp; done) | (simp; omega) | omega))) <;> (try conv => whnf)))
  subst hF
  refine forW_rng (fun i e s => ∃ t1 t2 t3 t4 t5 t6 t7 t8 t9 : Option T, e = e23 (some (.val (.kst (ns.map D.int)))) t1 t2 t3 t4 t5 t6 t7 t8 t9 none none none ∧ NV23 t6 ∧ s[0]? = some (.tbl "law")) (fun e s h => ?_) (fun i e s K hi h hK => ?_) ⟨_, _, _, _, _, _, _, _, _, rfl, .inl rfl, rfl⟩
  · obtain ⟨t1, t2, t3, t4, t5, t6, t7, t8, t9, rfl, _, tb⟩ := h
    ((try conv => whnf) <;> repeat ((first | (refine Ite.mt ?_ ?_; focus (first | rfl | (simp; done) | (simp; omega))) | (refine Ite.mf ?_ ?_; focus (first | rfl | (simp; done) | (simp; omega))) | (refine And.intro ?_ ?_; focus (first | rfl | decide | (simp; done) | (simp; omega) | omega))) <;> (try conv => whnf)))
    refine ho _ _ _ _ _ _ _ _ _ _ .non _ _ rfl rfl tb ?_
    ((try conv => whnf) <;> repeat ((first | (refine Ite.mt ?_ ?_; focus (first | rfl | (simp; done) | (simp; omega))) | (refine Ite.mf ?_ ?_; focus (first | rfl | (simp; done) | (simp; omega))) | (refine And.intro ?_ ?_; focus (first | rfl | decide | (simp; done) | (simp; omega) | omega))) <;> (try conv => whnf)))
    refine ho _ _ _ _ _ _ _ _ _ _ (.int 3) _ _ rfl rfl tb ?_
    ((try conv => whnf) <;> repeat ((first | (refine Ite.mt ?_ ?_; focus (first | rfl | (simp; done) | (simp; omega))) | (refine Ite.mf ?_ ?_; focus (first | rfl | (simp; done) | (simp; omega))) | (refine And.intro ?_ ?_; focus (first | rfl | decide | (simp; done) | (simp; omega) | omega))) <;> (try conv => whnf)))
    refine ho _ _ _ _ _ _ _ _ _ _ (.lst []) _ _ rfl rfl tb ?_
    ((try conv => whnf) <;> repeat ((first | (refine Ite.mt ?_ ?_; focus (first | rfl | (simp; done) | (simp; omega))) | (refine Ite.mf ?_ ?_; focus (first | rfl | (simp; done) | (simp; omega))) | (refine And.intro ?_ ?_; focus (first | rfl | decide | (simp; done) | (simp; omega) | omega))) <;> (try conv => whnf)))
    refine ho _ _ _ _ _ _ _ _ _ _ (.tup []) _ _ rfl rfl tb ?_
    ((try conv => whnf) <;> repeat ((first | (refine Ite.mt ?_ ?_; focus (first | rfl | (simp; done) | (simp; omega))) | (refine Ite.mf ?_ ?_; focus (first | rfl | (simp; done) | (simp; omega))) | (refine And.intro ?_ ?_; focus (first | rfl | decide | (simp; done) | (simp; omega) | omega))) <;> (try conv => whnf)))
    exact he _ _ _ _ _ _ _ _ _ _ _ _ _ (q _)
  · obtain ⟨t1, t2, t3, t4, t5, t6, t7, t8, t9, rfl, h6, tb⟩ := h
    (conv => whnf)
    refine k23_cell hn hi h6 (fun D0 x n x3 x4 x6 x7 x8 x9 S' hx tx dk hn hD => k23_sgn hx tx dk hn hD) fun x3 x4 x5 x6 x7 x8 x9 S' h6 hk => hK _ _ ⟨_, _, _, _, _, _, _, _, _, rfl, h6, ?_⟩
    have : 0 < s.length := (List.getElem?_eq_some_iff.mp tb).1
    exact (hk 0 this).trans tb
end VC

set_option Elab.async false
set_option linter.all false
set_option maxRecDepth 100000
set_option maxHeartbeats 4000000
/-! EO: what is asked of the class that is caught, from the head. -/
namespace VC
open PySem PySem.Spec PyProof.Rows L2 He
theorem xfF_of {K : PySem.W.Frag} {mg : Str → Option Value} {x fld : Str} (h : xfsB K x fld = true) (hm : mg x = some (.ref (ga K x))) : XfF K mg x fld := by
  obtain ⟨h, h'⟩ := ba h
  obtain ⟨h5, h6⟩ := ba h'
  obtain ⟨h1, h⟩ := ba h
  obtain ⟨h2, h⟩ := ba h
  obtain ⟨h3, h4⟩ := ba h
  exact ⟨_, hm, ⟨eqO_ok h1, eqO_ok h2, of_decide_eq_true h3, h4⟩, eqO_ok h5, of_decide_eq_true h6⟩
end VC

set_option Elab.async false
set_option linter.all false
set_option maxRecDepth 100000
set_option maxHeartbeats 4000000
/-! DO: own exceptions by super().__init__, from the head's facts. -/
namespace VC
open PySem PySem.Spec PyProof.Rows L2 He
theorem oex_of {K : PySem.W.Frag} {C : Addr} (h : oexB K C = true) : OexC K C := by
  obtain ⟨h0, h⟩ := ba h
  obtain ⟨h1, h⟩ := ba h
  obtain ⟨h2, h⟩ := ba h
  obtain ⟨h3, h4⟩ := ba h
  refine ⟨?_, eqO_ok h1, of_decide_eq_true h2, of_decide_eq_true h3, h4⟩
  unfold oexC at h0
  split at h0
  · rename_i dd cd sl ho
    split at h0
    · rename_i C' bm k0 k1 k2 k3 n k5 hm hs
      obtain ⟨a1, a⟩ := ba h0
      obtain ⟨a2, a⟩ := ba a
      obtain ⟨a3, a⟩ := ba a
      obtain ⟨a4, a5⟩ := ba a
      cases beq_iff_eq.mp a1
      cases beq_iff_eq.mp a2
      obtain ⟨nm, bs, mro, ns, qn, hd, sn, sub, ab, col, del⟩ := cd
      have hdel : del = false := by simpa using a3
      have hhd : hd = true := a4
      dsimp only at hm
      subst hm hdel hhd
      have hsl : sl = #[k0, k1, k2, k3, some (.builtin "ValueError.__new__"), k5] := by
        obtain ⟨l⟩ := sl
        simp only at hs
        rw [hs]
      subst hsl
      exact ⟨nm, qn, ns, bs, bm, sn, sub, ab, col, dd, k0, k1, k2, k3, k5, ho, a5⟩
    · cases h0
  · cases h0
theorem file_of {P : Program} {K : PySem.W.Frag} {a : Addr} {file : Str} (h : fileB K a file = true) (hf : ((P.main.file : Str) == file) = true) : ∃ oc od vs sl file tf, K.lookup a = some ⟨oc, od, .fields vs, sl⟩ ∧ vs[2]? = some (.str file tf) ∧ ((P.main.file : Str) == file) = true := by
  unfold fileB at h
  split at h
  · rename_i oc od vs sl ho
    split at h
    · rename_i f tf hv
      cases beq_iff_eq.mp h
      exact ⟨oc, od, vs, sl, _, tf, ho, hv, hf⟩
    · cases h
  · cases h
theorem cell_of {K : PySem.W.Frag} {a C : Addr} (h : cellB K a C = true) : ∃ cl cld csl, K.lookup a = some ⟨cl, cld, .cell (some (.ref C)), csl⟩ := by
  unfold cellB at h
  split at h
  · rename_i oc od c sl ho
    cases beq_iff_eq.mp h
    exact ⟨oc, od, sl, ho⟩
  · cases h
theorem SupD.supC {P : Program} {K : PySem.W.Frag} {q : SupD} (c : q.ok K = true) (e : suA K (supI K q) = q.val) (hf : ((P.main.file : Str) == q.file) = true) :
    SupC P K (ga K q.cls) (supI K q) (fnC K (supI K q)) (fnK K (supI K q)) q.d.name q.d.qual q.fld q.d.params q.d.body q.d.scope := by
  obtain ⟨c1, c⟩ := ba c
  obtain ⟨o1, c1⟩ := ba c1
  obtain ⟨i1, c1⟩ := ba c1
  obtain ⟨t1, f1⟩ := ba c1
  obtain ⟨c2, c⟩ := ba c
  obtain ⟨k1, c2⟩ := ba c2
  obtain ⟨fi, ce⟩ := ba c2
  obtain ⟨s1, c⟩ := ba c
  obtain ⟨s2, c⟩ := ba c
  obtain ⟨s3, c⟩ := ba c
  obtain ⟨s4, s5⟩ := ba c
  refine ⟨oex_of o1, eqO_ok i1, of_decide_eq_true t1, ?_, k1, file_of fi hf, cell_of ce, eqO_ok s1, of_decide_eq_true s2, of_decide_eq_true s3, eqO_ok s4, eqO_ok s5⟩
  clear k1 fi ce i1 t1 o1 s1 s2 s3 s4 s5
  generalize supI K q = a at *
  unfold suA at e
  unfold fnB at f1
  unfold fnC fnK
  match hl : K.lookup a, e, f1 with
  | some ⟨oc, od, .func ⟨n1, n2, n3, n4, n5, n6, n7, n8, n9, n10, n11, n12, n13, n14, n15⟩, osl⟩, e, f1 =>
    have e2 : (some (n1, n2, n3, n4, n5, n6, n7.map (fun x => (x.1, 0)), n15) : FnW) = q.val := e
    unfold SupD.val at e2
    simp only [Option.some.injEq, Prod.mk.injEq] at e2
    obtain ⟨rfl, rfl, rfl, rfl, rfl, rfl, e7, rfl⟩ := e2
    match n8, n13, n7, f1, e7 with
    | .none, .ref cd, [(y, cc)], _, e7 =>
      simp only [List.map_cons, List.map_nil, List.cons.injEq, Prod.mk.injEq, and_true] at e7
      subst e7
      exact ⟨oc, od, n9, n10, n11, n12, n14, osl, rfl⟩
theorem exS_of {P : Program} {K : PySem.W.Frag} {mg : Str → Option Value} {x : Str} {C fI cc cda : Addr} {name qual fld self lm m : Str} {params : Arguments} {body : List Stmt} {scope : Scope} {j : Nat} {p0 p1 p2 p3 p4 p5 p6 p7 p8 p9 : Pos}
    (F : SupC P K C fI cc cda name qual fld params body scope) (Sc : SupS self lm params scope) (hm : mg x = some (.ref C)) (hms : mg "super" = none)
    (hbody : body = [.Expr (.Call (.Attribute (.Call (.Name "super" p0) [] [] p1) "__init__" p2) [.Constant (.str m) j p3] [] p4) p5, .Assign [.Attribute (.Name self p6) fld p7] (.Name lm p8) p9])
    (hbind : ∀ (kV doc pm : Value) (an : Option Addr) (ct : Value) (s : Shared) (a u : Value), BindsTo s (PySem.W.ksFn name qual params body scope .none kV doc pm an (.ref cda) ct cc) ⟨[a, u], []⟩ [(self, a), (lm, u)])
    (hev : ∀ env : Env, ∃ pl : Sem Bool, eval (.Call (.Attribute (.Call (.Name "super" p0) [] [] p1) "__init__" p2) [.Constant (.str m) j p3] [] p4) env = (do
      let ov ← attributeBase (.Call (.Name "super" p0) [] [] p1) "__init__" env (eval (.Call (.Name "super" p0) [] [] p1) env)
      standAt p2.atName
      let (f, first) ← holding [ov] (getMethod ov "__init__" pl)
      callWith p4 f first (backTo p4 (starEach [.Constant (.str m) j p3] env)) []))
    (hsw : ∀ env : Env, swapsWith (.Name lm p8) (some (.Attribute (.Name self p6) fld p7)) p9.line env = pure false)
    (htop : (P.main.scope.names.lookup ("super" : Str)).isSome = false) (hdb : (x == ("__debug__" : Str)) = false := by decide) : ExS P K mg x fld := by
  refine ⟨C, hm, fun X e ta p pos e1 e2 e3 hr hg ha he => ?_⟩
  subst e1 e2 e3
  exact pmk_sup (k := 0) F Sc hr hg hm hms ha hbody hbind hev hsw htop hdb he
end VC

set_option Elab.async false
set_option linter.all false
set_option maxRecDepth 100000
set_option maxHeartbeats 4000000
namespace VC
namespace K23
open PySem PySem.Spec PyProof.Rows L2
theorem sc_is_from : FnScope ["value", "low", "high"] ["value", "low", "high"] (defScope s_is_from) := ⟨rfl, rfl, rfl, by decide +kernel, rfl, by decide +kernel, by decide +kernel⟩
theorem b_is_from {P : Program} {w : World} {K : PySem.W.Frag} {mg : Str → Option Value} {base : Heap} {k : Nat} (nb : Nob mg) {f : Addr} {cdv : Value} {A : Around} {outer : List Env} {s : Shared} {H : Hp} {E : XK} {B : Hp} {g0 : Gh} (hr : Room k (A.deeper (envOfC "is_from" (defScope s_is_from) s.heap.objs.size f cdv))) :
    VSs (cxX P w K mg base ["value", "low", "high"] "is_from" (defScope s_is_from) f cdv A outer s H E) B g0 (defBody s_is_from) (wf_is_from) :=
  (vss_one (vs_ret (ve_and (ve_isi hf_int (by rfl) nb.isinstance (vo_var (pv 0)) (by rfl) nb.int bb_int) (ve_and (ve_not (ve_isi hf_bl (by rfl) nb.isinstance (vo_var (pv 0)) (by rfl) nb.bool bb_bool)) (ve_one (ve_chain o_le o_le (vo_var (pv 1)) (vo_var (pv 0)) (vo_var (pv 2))))))))

theorem sc_is_stage_of : FnScope ["top", "value"] ["top", "value"] (defScope s_is_stage_of) := ⟨rfl, rfl, rfl, by decide +kernel, rfl, by decide +kernel, by decide +kernel⟩
theorem b_is_stage_of {P : Program} {w : World} {K : PySem.W.Frag} {mg : Str → Option Value} {base : Heap} {k : Nat} (nb : Nob mg) (c_MOST_TOP : ∃ t, mg "MOST_TOP" = some (.int 5 t)) (c_MOST_WAIT : ∃ t, mg "MOST_WAIT" = some (.int 2 t)) {sp_is_from : FSpec} {k_is_from : Nat} (F_is_from : FnV P w K mg base "is_from" 3 k_is_from sp_is_from) (h_is_from : k_is_from ≤ k) {f : Addr} {cdv : Value} {A : Around} {outer : List Env} {s : Shared} {H : Hp} {E : XK} {B : Hp} {g0 : Gh} (hr : Room k (A.deeper (envOfC "is_stage_of" (defScope s_is_stage_of) s.heap.objs.size f cdv))) :
    VSs (cxX P w K mg base ["top", "value"] "is_stage_of" (defScope s_is_stage_of) f cdv A outer s H E) B g0 (defBody s_is_stage_of) (wf_is_stage_of sp_is_from) :=
  (vss_cons (vs_if (vw_or (vt_not (vt_val (ve_isi hf_tup (by rfl) nb.isinstance (vo_var (pv 1)) (by rfl) nb.tuple bb_tuple))) (vw_or (vt_cmp o_lt (ve_callB n_lenX (by rfl) nb.len bb_len (vu_cons (vo_var (pv 1)) vu_nil)).vo ve_int.vo) (vw_or1 (vt_not (vt_val (ve_isi hf_str (by rfl) nb.isinstance (ve_ix (o_ixX hr.u65) (vo_var (pv 1)) ve_int.vo).vo (by rfl) nb.str bb_str)))))).vt
  (vss_one (vs_ret ve_bl))
  vss_nil)
  (vss_cons (vs_if (vt_cmp (o_eq hr.units) (ve_ix (o_ixX hr.u65) (vo_var (pv 1)) ve_int.vo).vo ve_str.vo)
  (vss_one (vs_ret (ve_and (ve_cmp (o_eq hr.units) (ve_callB n_lenX (by rfl) nb.len bb_len (vu_cons (vo_var (pv 1)) vu_nil)).vo ve_int.vo) (ve_one (ve_call F_is_from (hr.mono h_is_from) (by rfl) (va_cons (ve_ix (o_ixX hr.u65) (vo_var (pv 1)) ve_int.vo) (va_cons ve_int (va_cons (ve_gi (by rfl) c_MOST_WAIT) va_nil))))))))
  vss_nil)
  (vss_cons (vs_if (vt_cmp (o_ne hr.units) (ve_callB n_lenX (by rfl) nb.len bb_len (vu_cons (vo_var (pv 1)) vu_nil)).vo ve_int.vo)
  (vss_one (vs_ret ve_bl))
  vss_nil)
  (vss_cons (vs_if (vt_cmp (o_eq hr.units) (ve_ix (o_ixX hr.u65) (vo_var (pv 1)) ve_int.vo).vo ve_str.vo)
  (vss_one (vs_ret (ve_and (ve_call F_is_from (hr.mono h_is_from) (by rfl) (va_cons (ve_ix (o_ixX hr.u65) (vo_var (pv 1)) ve_int.vo) (va_cons ve_int (va_cons (ve_gi (by rfl) c_MOST_TOP) va_nil)))) (ve_one (ve_call F_is_from (hr.mono h_is_from) (by rfl) (va_cons (ve_ix (o_ixX hr.u65) (vo_var (pv 1)) ve_int.vo) (va_cons ve_int (va_cons (ve_gi (by rfl) c_MOST_TOP) va_nil))))))))
  vss_nil)
  (vss_cons (vs_if (vt_cmp (o_inXf hr.u65) (ve_ix (o_ixX hr.u65) (vo_var (pv 1)) ve_int.vo).vo (ve_tup (va_cons ve_str (va_cons ve_str va_nil))).vo)
  (vss_one (vs_ret (ve_and (ve_call F_is_from (hr.mono h_is_from) (by rfl) (va_cons (ve_ix (o_ixX hr.u65) (vo_var (pv 1)) ve_int.vo) (va_cons ve_int (va_cons (ve_var (pv 0)) va_nil)))) (ve_one (ve_call F_is_from (hr.mono h_is_from) (by rfl) (va_cons (ve_ix (o_ixX hr.u65) (vo_var (pv 1)) ve_int.vo) (va_cons (ve_ix (o_ixX hr.u65) (vo_var (pv 1)) ve_int.vo) (va_cons (ve_var (pv 0)) va_nil))))))))
  vss_nil)
  (vss_one (vs_ret ve_bl)))))))

theorem sc_keeping : FnScope ["stages", "stage"] ["stages"] (defScope s_keeping) := ⟨rfl, rfl, rfl, by decide +kernel, rfl, by decide +kernel, by decide +kernel⟩
theorem b_keeping {P : Program} {w : World} {K : PySem.W.Frag} {mg : Str → Option Value} {base : Heap} {k : Nat} (nb : Nob mg) {f : Addr} {cdv : Value} {A : Around} {outer : List Env} {s : Shared} {H : Hp} {E : XK} {B : Hp} {g0 : Gh} (hr : Room k (A.deeper (envOfC "keeping" (defScope s_keeping) s.heap.objs.size f cdv))) :
    VSs (cxX P w K mg base ["stages", "stage"] "keeping" (defScope s_keeping) f cdv A outer s H E) B g0 (defBody s_keeping) (wf_keeping) :=
  (vss_one (vs_ret (ve_callB n_lenX (by rfl) nb.len bb_len (vu_cons (ve_lc (own := [("stage", 1)]) (is := [1]) (by rfl) sc_keeping.nd (vi_wk (ve_var (pv 0))) (by rfl) ⟨fun _ _ _ _ _ _ _ => (vg_name (pg_name (i := 1) sc_keeping.nd (by rfl) (Or.inl (by rfl)))), fun _ _ _ _ _ _ _ => (vts_one (vt_cmp (o_ne hr.units) (ve_ix (o_ixX hr.u65) (vo_var (pv 1)) ve_int.vo).vo ve_str.vo)), fun _ _ _ _ _ _ _ => (ve_var (pv 1))⟩ (by decide)).vo vu_nil))))

theorem sc_is_chain_of : FnScope ["value", "top", "start", "stages", "stage"] ["value"] (defScope s_is_chain_of) := ⟨rfl, rfl, rfl, by decide +kernel, rfl, by decide +kernel, by decide +kernel⟩
theorem b_is_chain_of {P : Program} {w : World} {K : PySem.W.Frag} {mg : Str → Option Value} {base : Heap} {k : Nat} (nb : Nob mg) (c_MOST_KEEPING : ∃ t, mg "MOST_KEEPING" = some (.int 2 t)) (c_MOST_STAGES : ∃ t, mg "MOST_STAGES" = some (.int 3 t)) (c_MOST_TOP : ∃ t, mg "MOST_TOP" = some (.int 5 t)) {sp_is_stage_of : FSpec} {k_is_stage_of : Nat} (F_is_stage_of : FnV P w K mg base "is_stage_of" 2 k_is_stage_of sp_is_stage_of) (h_is_stage_of : k_is_stage_of ≤ k) {sp_keeping : FSpec} {k_keeping : Nat} (F_keeping : FnV P w K mg base "keeping" 1 k_keeping sp_keeping) (h_keeping : k_keeping ≤ k) {sp_is_from : FSpec} {k_is_from : Nat} (F_is_from : FnV P w K mg base "is_from" 3 k_is_from sp_is_from) (h_is_from : k_is_from ≤ k) {f : Addr} {cdv : Value} {A : Around} {outer : List Env} {s : Shared} {H : Hp} {E : XK} {B : Hp} {g0 : Gh} (hr : Room k (A.deeper (envOfC "is_chain_of" (defScope s_is_chain_of) s.heap.objs.size f cdv))) :
    VSs (cxX P w K mg base ["value", "top", "start", "stages", "stage"] "is_chain_of" (defScope s_is_chain_of) f cdv A outer s H E) B g0 (defBody s_is_chain_of) (wf_is_chain_of sp_is_stage_of sp_keeping sp_is_from) :=
  (vss_cons (vs_if (vw_or (vt_not (vt_val (ve_isi hf_tup (by rfl) nb.isinstance (vo_var (pv 0)) (by rfl) nb.tuple bb_tuple))) (vw_or (vt_cmp (o_ne hr.units) (ve_callB n_lenX (by rfl) nb.len bb_len (vu_cons (vo_var (pv 0)) vu_nil)).vo ve_int.vo) (vw_or1 (vt_not (vt_val (ve_call F_is_from (hr.mono h_is_from) (by rfl) (va_cons (ve_ix (o_ixX hr.u65) (vo_var (pv 0)) ve_int.vo) (va_cons ve_int (va_cons (ve_gi (by rfl) c_MOST_TOP) va_nil))))))))).vt
  (vss_one (vs_ret ve_bl))
  vss_nil)
  (vss_cons (vs_asg (ve_var (pv 0)) (vg_tupL (by rfl) (vgs_cons (vg_name (pg_name (i := 1) sc_is_chain_of.nd (by rfl) (Or.inr (by rfl)))) (vgs_cons (vg_name (pg_name (i := 2) sc_is_chain_of.nd (by rfl) (Or.inl (by rfl)))) (vgs_cons (vg_name (pg_name (i := 3) sc_is_chain_of.nd (by rfl) (Or.inl (by rfl)))) vgs_nil))) (lenC exN (lenC exN (lenC exN lenN)))))
  (vss_cons (vs_if (vw_or (vt_not (vt_val (ve_call F_is_from (hr.mono h_is_from) (by rfl) (va_cons (ve_var (pv 2)) (va_cons ve_int (va_cons (ve_var (pv 1)) va_nil)))))) (vw_or (vt_not (vt_val (ve_isi hf_tup (by rfl) nb.isinstance (vo_var (pv 3)) (by rfl) nb.tuple bb_tuple))) (vw_or1 (vt_cmp o_gt (ve_callB n_lenX (by rfl) nb.len bb_len (vu_cons (vo_var (pv 3)) vu_nil)).vo (ve_gi (by rfl) c_MOST_STAGES).vo)))).vt
  (vss_one (vs_ret ve_bl))
  vss_nil)
  (vss_one (vs_ret (ve_and (ve_callB (n_all (by rfl)) (by rfl) nb.all bb_all (vu_cons (ve_lc (own := [("stage", 4)]) (is := [4]) (by rfl) sc_is_chain_of.nd (vi_wk (ve_var (pv 3))) (by rfl) ⟨fun _ _ _ _ _ _ _ => (vg_name (pg_name (i := 4) sc_is_chain_of.nd (by rfl) (Or.inl (by rfl)))), fun _ _ _ _ _ _ _ => vts_nil, fun _ _ _ _ _ _ _ => (ve_call F_is_stage_of (hr.mono h_is_stage_of) (by rfl) (va_cons (ve_var (pv 1)) (va_cons (ve_var (pv 4)) va_nil)))⟩ (by decide)).vo vu_nil)) (ve_one (ve_cmp o_le (ve_call F_keeping (hr.mono h_keeping) (by rfl) (va_cons (ve_var (pv 3)) va_nil)).vo (ve_gi (by rfl) c_MOST_KEEPING).vo))))))))

theorem sc_need_chain : FnScope ["value"] ["value"] (defScope s_need_chain) := ⟨rfl, rfl, rfl, by decide +kernel, rfl, by decide +kernel, by decide +kernel⟩
theorem b_need_chain {P : Program} {w : World} {K : PySem.W.Frag} {mg : Str → Option Value} {base : Heap} {k : Nat} (nb : Nob mg) {sp_is_chain_of : FSpec} {k_is_chain_of : Nat} (F_is_chain_of : FnV P w K mg base "is_chain_of" 1 k_is_chain_of sp_is_chain_of) (h_is_chain_of : k_is_chain_of ≤ k) {f : Addr} {cdv : Value} {A : Around} {outer : List Env} {s : Shared} {H : Hp} {E : XK} {B : Hp} {g0 : Gh} (hr : Room k (A.deeper (envOfC "need_chain" (defScope s_need_chain) s.heap.objs.size f cdv))) :
    VSs (cxX P w K mg base ["value"] "need_chain" (defScope s_need_chain) f cdv A outer s H E) B g0 (defBody s_need_chain) (wf_need_chain sp_is_chain_of) :=
  (vss_one (vs_if (vt_not (vt_val (ve_call F_is_chain_of (hr.mono h_is_chain_of) (by rfl) (va_cons (ve_var (pv 0)) va_nil))))
  (vss_one vs_never)
  vss_nil))

theorem sc_stage_text : FnScope ["stage", "number"] ["stage"] (defScope s_stage_text) := ⟨rfl, rfl, rfl, by decide +kernel, rfl, by decide +kernel, by decide +kernel⟩
theorem b_stage_text {P : Program} {w : World} {K : PySem.W.Frag} {mg : Str → Option Value} {base : Heap} {k : Nat} (nb : Nob mg) {f : Addr} {cdv : Value} {A : Around} {outer : List Env} {s : Shared} {H : Hp} {E : XK} {B : Hp} {g0 : Gh} (hr : Room k (A.deeper (envOfC "stage_text" (defScope s_stage_text) s.heap.objs.size f cdv))) :
    VSs (cxX P w K mg base ["stage", "number"] "stage_text" (defScope s_stage_text) f cdv A outer s H E) B g0 (defBody s_stage_text) (wf_stage_text) :=
  (vss_one (vs_ret (ve_sm PySem.F.slot_str_join PySem.F.type_str_join s_join ve_str.vo (ve_bin o_add (ve_lst (va_cons (ve_ix (o_ixX hr.u65) (vo_var (pv 0)) ve_int.vo) va_nil)).vo (ve_lc (own := [("number", 1)]) (is := [1]) (by rfl) sc_stage_text.nd (vi_wk (ve_slice (vo_var (pv 0)) (vp_some ve_int) vp_none)) (by rfl) ⟨fun _ _ _ _ _ _ _ => (vg_name (pg_name (i := 1) sc_stage_text.nd (by rfl) (Or.inl (by rfl)))), fun _ _ _ _ _ _ _ => vts_nil, fun _ _ _ _ _ _ _ => (ve_callTy n_str1 (by rfl) nb.str bb_str (vu_cons (vo_var (pv 1)) vu_nil))⟩ (by decide)).vo).vo)))

theorem sc_chain_text : FnScope ["chain", "head", "stage"] ["chain"] (defScope s_chain_text) := ⟨rfl, rfl, rfl, by decide +kernel, rfl, by decide +kernel, by decide +kernel⟩
theorem b_chain_text {P : Program} {w : World} {K : PySem.W.Frag} {mg : Str → Option Value} {base : Heap} {k : Nat} (nb : Nob mg) {sp_stage_text : FSpec} {k_stage_text : Nat} (F_stage_text : FnV P w K mg base "stage_text" 1 k_stage_text sp_stage_text) (h_stage_text : k_stage_text ≤ k) {sp_need_chain : FSpec} {k_need_chain : Nat} (F_need_chain : FnV P w K mg base "need_chain" 1 k_need_chain sp_need_chain) (h_need_chain : k_need_chain ≤ k) {f : Addr} {cdv : Value} {A : Around} {outer : List Env} {s : Shared} {H : Hp} {E : XK} {B : Hp} {g0 : Gh} (hr : Room k (A.deeper (envOfC "chain_text" (defScope s_chain_text) s.heap.objs.size f cdv))) :
    VSs (cxX P w K mg base ["chain", "head", "stage"] "chain_text" (defScope s_chain_text) f cdv A outer s H E) B g0 (defBody s_chain_text) (wf_chain_text sp_stage_text sp_need_chain) :=
  (vss_cons (vs_expr (ve_call F_need_chain (hr.mono h_need_chain) (by rfl) (va_cons (ve_var (pv 0)) va_nil)))
  (vss_cons (vs_set (ve_fs3 (ve_ix (o_ixX hr.u65) (vo_var (pv 0)) ve_int.vo) (ve_ix (o_ixX hr.u65) (vo_var (pv 0)) ve_int.vo)) (fun _ h => ps_set (i := 1) sc_chain_text.nd (by rfl) (Or.inl (by rfl)) h))
  (vss_one (vs_ret (ve_if (vt_cmp (o_ne hr.units) (ve_ix (o_ixX hr.u65) (vo_var (pv 0)) ve_int.vo).vo (ve_tup va_nil).vo) (ve_sm PySem.F.slot_str_join PySem.F.type_str_join s_join ve_str.vo (ve_bin o_add (ve_lst (va_cons (ve_var (pv 1)) va_nil)).vo (ve_lst (va_cons (ve_sm PySem.F.slot_str_join PySem.F.type_str_join s_join ve_str.vo (ve_lc (own := [("stage", 2)]) (is := [2]) (by rfl) sc_chain_text.nd (vi_wk (ve_ix (o_ixX hr.u65) (vo_var (pv 0)) ve_int.vo)) (by rfl) ⟨fun _ _ _ _ _ _ _ => (vg_name (pg_name (i := 2) sc_chain_text.nd (by rfl) (Or.inl (by rfl)))), fun _ _ _ _ _ _ _ => vts_nil, fun _ _ _ _ _ _ _ => (ve_call F_stage_text (hr.mono h_stage_text) (by rfl) (va_cons (ve_var (pv 2)) va_nil))⟩ (by decide)).vo) va_nil)).vo).vo) (ve_var (pv 1)))))))

theorem sc_number_in : FnScope ["word"] ["word"] (defScope s_number_in) := ⟨rfl, rfl, rfl, by decide +kernel, rfl, by decide +kernel, by decide +kernel⟩
theorem b_number_in {P : Program} {w : World} {K : PySem.W.Frag} {mg : Str → Option Value} {base : Heap} {k : Nat} (nb : Nob mg) (c_FIGURES : ∃ t, mg "FIGURES" = some (.str "0123456789" t)) {f : Addr} {cdv : Value} {A : Around} {outer : List Env} {s : Shared} {H : Hp} {E : XK} {B : Hp} {g0 : Gh} (hr : Room k (A.deeper (envOfC "number_in" (defScope s_number_in) s.heap.objs.size f cdv))) :
    VSs (cxX P w K mg base ["word"] "number_in" (defScope s_number_in) f cdv A outer s H E) B g0 (defBody s_number_in) (wf_number_in) :=
  (vss_one (vs_ret (ve_if (vw_and (vt_cmp (o_eq hr.units) (ve_callB n_lenX (by rfl) nb.len bb_len (vu_cons (vo_var (pv 0)) vu_nil)).vo ve_int.vo) (vw_and1 (vt_cmp o_inS (vo_var (pv 0)) (ve_gs (by rfl) c_FIGURES).vo))).vt (ve_callTy n_intS (by rfl) nb.int bb_int (vu_cons (vo_var (pv 0)) vu_nil)) ve_non)))

theorem sc_stage_in : FnScope ["text", "words", "word"] ["text"] (defScope s_stage_in) := ⟨rfl, rfl, rfl, by decide +kernel, rfl, by decide +kernel, by decide +kernel⟩
theorem b_stage_in {P : Program} {w : World} {K : PySem.W.Frag} {mg : Str → Option Value} {base : Heap} {k : Nat} (nb : Nob mg) {sp_number_in : FSpec} {k_number_in : Nat} (F_number_in : FnV P w K mg base "number_in" 1 k_number_in sp_number_in) (h_number_in : k_number_in ≤ k) {f : Addr} {cdv : Value} {A : Around} {outer : List Env} {s : Shared} {H : Hp} {E : XK} {B : Hp} {g0 : Gh} (hr : Room k (A.deeper (envOfC "stage_in" (defScope s_stage_in) s.heap.objs.size f cdv))) :
    VSs (cxX P w K mg base ["text", "words", "word"] "stage_in" (defScope s_stage_in) f cdv A outer s H E) B g0 (defBody s_stage_in) (wf_stage_in sp_number_in) :=
  (vss_cons (vs_set (ve_sm PySem.F.slot_str_split PySem.F.type_str_split s_split (vo_var (pv 0)) ve_str.vo) (fun _ h => ps_set (i := 1) sc_stage_in.nd (by rfl) (Or.inl (by rfl)) h))
  (vss_one (vs_ret (ve_bin o_add (ve_tup (va_cons (ve_ix (o_ixX hr.u65) (vo_var (pv 1)) ve_int.vo) va_nil)).vo (ve_callTy n_tuple (by rfl) nb.tuple bb_tuple (vu_cons (ve_lc (own := [("word", 2)]) (is := [2]) (by rfl) sc_stage_in.nd (vi_wk (ve_slice (vo_var (pv 1)) (vp_some ve_int) vp_none)) (by rfl) ⟨fun _ _ _ _ _ _ _ => (vg_name (pg_name (i := 2) sc_stage_in.nd (by rfl) (Or.inl (by rfl)))), fun _ _ _ _ _ _ _ => vts_nil, fun _ _ _ _ _ _ _ => (ve_call F_number_in (hr.mono h_number_in) (by rfl) (va_cons (ve_var (pv 2)) va_nil))⟩ (by decide)).vo vu_nil)).vo))))

theorem sc_chain_in : FnScope ["line", "head", "mark", "rest", "words", "stages", "found", "part"] ["line"] (defScope s_chain_in) := ⟨rfl, rfl, rfl, by decide +kernel, rfl, by decide +kernel, by decide +kernel⟩
theorem b_chain_in {P : Program} {w : World} {K : PySem.W.Frag} {mg : Str → Option Value} {base : Heap} {k : Nat} (nb : Nob mg) {sp_is_chain_of : FSpec} {k_is_chain_of : Nat} (F_is_chain_of : FnV P w K mg base "is_chain_of" 1 k_is_chain_of sp_is_chain_of) (h_is_chain_of : k_is_chain_of ≤ k) {sp_number_in : FSpec} {k_number_in : Nat} (F_number_in : FnV P w K mg base "number_in" 1 k_number_in sp_number_in) (h_number_in : k_number_in ≤ k) {sp_stage_in : FSpec} {k_stage_in : Nat} (F_stage_in : FnV P w K mg base "stage_in" 1 k_stage_in sp_stage_in) (h_stage_in : k_stage_in ≤ k) {f : Addr} {cdv : Value} {A : Around} {outer : List Env} {s : Shared} {H : Hp} {E : XK} {B : Hp} {g0 : Gh} (hr : Room k (A.deeper (envOfC "chain_in" (defScope s_chain_in) s.heap.objs.size f cdv))) :
    VSs (cxX P w K mg base ["line", "head", "mark", "rest", "words", "stages", "found", "part"] "chain_in" (defScope s_chain_in) f cdv A outer s H E) B g0 (defBody s_chain_in) (wf_chain_in sp_is_chain_of sp_number_in sp_stage_in) :=
  (vss_cons (vs_asg (ve_sm PySem.F.slot_str_partition PySem.F.type_str_partition s_part (vo_var (pv 0)) ve_str.vo) (vg_tupL (by rfl) (vgs_cons (vg_name (pg_name (i := 1) sc_chain_in.nd (by rfl) (Or.inl (by rfl)))) (vgs_cons (vg_name (pg_name (i := 2) sc_chain_in.nd (by rfl) (Or.inl (by rfl)))) (vgs_cons (vg_name (pg_name (i := 3) sc_chain_in.nd (by rfl) (Or.inl (by rfl)))) vgs_nil))) (lenC exN (lenC exN (lenC exN lenN)))))
  (vss_cons (vs_set (ve_sm PySem.F.slot_str_split PySem.F.type_str_split s_split (vo_var (pv 1)) ve_str.vo) (fun _ h => ps_set (i := 4) sc_chain_in.nd (by rfl) (Or.inl (by rfl)) h))
  (vss_cons (vs_if (vw_or (vt_cmp (o_ne hr.units) (ve_callB n_lenX (by rfl) nb.len bb_len (vu_cons (vo_var (pv 4)) vu_nil)).vo ve_int.vo) (vw_or1 (vt_cmp (o_ne hr.units) (ve_ix (o_ixX hr.u65) (vo_var (pv 4)) ve_int.vo).vo ve_str.vo))).vt
  (vss_one (vs_ret ve_non))
  vss_nil)
  (vss_cons (vs_set (ve_if (vt_cmp (o_ne hr.units) (vo_var (pv 2)) ve_str.vo) (ve_callTy n_tuple (by rfl) nb.tuple bb_tuple (vu_cons (ve_lc (own := [("part", 7)]) (is := [7]) (by rfl) sc_chain_in.nd (vi_wk (ve_sm PySem.F.slot_str_split PySem.F.type_str_split s_split (vo_var (pv 3)) ve_str.vo)) (by rfl) ⟨fun _ _ _ _ _ _ _ => (vg_name (pg_name (i := 7) sc_chain_in.nd (by rfl) (Or.inl (by rfl)))), fun _ _ _ _ _ _ _ => vts_nil, fun _ _ _ _ _ _ _ => (ve_call F_stage_in (hr.mono h_stage_in) (by rfl) (va_cons (ve_var (pv 7)) va_nil))⟩ (by decide)).vo vu_nil)) (ve_tup va_nil)) (fun _ h => ps_set (i := 5) sc_chain_in.nd (by rfl) (Or.inl (by rfl)) h))
  (vss_cons (vs_set (ve_tup (va_cons (ve_call F_number_in (hr.mono h_number_in) (by rfl) (va_cons (ve_ix (o_ixX hr.u65) (vo_var (pv 4)) ve_int.vo) va_nil)) (va_cons (ve_call F_number_in (hr.mono h_number_in) (by rfl) (va_cons (ve_ix (o_ixX hr.u65) (vo_var (pv 4)) ve_int.vo) va_nil)) (va_cons (ve_var (pv 5)) va_nil)))) (fun _ h => ps_set (i := 6) sc_chain_in.nd (by rfl) (Or.inl (by rfl)) h))
  (vss_one (vs_ret (ve_if (vt_val (ve_call F_is_chain_of (hr.mono h_is_chain_of) (by rfl) (va_cons (ve_var (pv 6)) va_nil))) (ve_var (pv 6)) ve_non))))))))

theorem sc_read_chains : FnScope ["text", "found", "place", "line", "one"] ["text"] (defScope s_read_chains) := ⟨rfl, rfl, rfl, by decide +kernel, rfl, by decide +kernel, by decide +kernel⟩
theorem bx_read_chains {P : Program} {w : World} {K : PySem.W.Frag} {mg : Str → Option Value} {base : Heap} {k : Nat} (nb : Nob mg) {sp_chain_in : FSpec} {k_chain_in : Nat} (F_chain_in : FnV P w K mg base "chain_in" 1 k_chain_in sp_chain_in) (h_chain_in : k_chain_in ≤ k) (es_InvalidText : ExS P K mg "InvalidText" "line") (hk1 : 1 ≤ k) {f : Addr} {cdv : Value} {A : Around} {outer : List Env} {s : Shared} {H : Hp} {E : XK} {B : Hp} {g0 : Gh} (hr : Room k (A.deeper (envOfC "read_chains" (defScope s_read_chains) s.heap.objs.size f cdv))) {Ex : XD → Sto → Prop} (hx : XW (cxY P w K mg base ["text", "found", "place", "line", "one"] "read_chains" (defScope s_read_chains) f cdv A outer s H E) B g0 Ex) :
    VSs (cxY P w K mg base ["text", "found", "place", "line", "one"] "read_chains" (defScope s_read_chains) f cdv A outer s H E) B g0 (defBody s_read_chains) (wfx_read_chains sp_chain_in Ex) :=
  (vss_cons (vs_if (vt_not (vt_val (ve_isi hf_str (by rfl) nb.isinstance (vo_var (pv 0)) (by rfl) nb.str bb_str)))
  (vss_one (vs_raiseF hx es_InvalidText (by rfl) (hr.mono hk1) (by rfl) (va_cons ve_int va_nil)))
  vss_nil)
  (vss_cons (vs_set (ve_tup va_nil) (fun _ h => ps_set (i := 1) sc_read_chains.nd (by rfl) (Or.inl (by rfl)) h))
  (vss_cons (vs_for owns_cxY (by rfl) (vi_enum (by rfl) nb.enumerate (va_cons (ve_if (vt_cmp (o_ne hr.units) (vo_var (pv 0)) ve_str.vo) (ve_sm PySem.F.slot_str_split PySem.F.type_str_split s_split (vo_var (pv 0)) ve_str.vo) (ve_lst va_nil)) va_nil)) (vg_tupL (by rfl) (vgs_cons (vg_name (pg_name (i := 2) sc_read_chains.nd (by rfl) (Or.inl (by rfl)))) (vgs_cons (vg_name (pg_name (i := 3) sc_read_chains.nd (by rfl) (Or.inl (by rfl)))) vgs_nil)) (lenC exN (lenC exN lenN)))
  (vss_cons (vs_set (ve_call F_chain_in (hr.mono h_chain_in) (by rfl) (va_cons (ve_var (pv 3)) va_nil)) (fun _ h => ps_set (i := 4) sc_read_chains.nd (by rfl) (Or.inl (by rfl)) h))
  (vss_cons (vs_if (vt_cmp o_is (vo_var (pv 4)) ve_non.vo)
  (vss_one (vs_raiseF hx es_InvalidText (by rfl) (hr.mono hk1) (by rfl) (va_cons (ve_bin o_add (vo_var (pv 2)) ve_int.vo) va_nil)))
  vss_nil)
  (vss_one (vs_set (ve_bin o_add (vo_var (pv 1)) (ve_tup (va_cons (ve_var (pv 4)) va_nil)).vo) (fun _ h => ps_set (i := 1) sc_read_chains.nd (by rfl) (Or.inl (by rfl)) h))))))
  (vss_one (vs_ret (ve_mv (pv 1)))))))

theorem sc__law_deck : FnScope ["_law_cell", "_law_turn"] ["_law_cell", "_law_turn"] (defScope s__law_deck) := ⟨rfl, rfl, rfl, by decide +kernel, rfl, by decide +kernel, by decide +kernel⟩
theorem b__law_deck {P : Program} {w : World} {K : PySem.W.Frag} {mg : Str → Option Value} {base : Heap} {k : Nat} (nb : Nob mg) {f : Addr} {cdv : Value} {A : Around} {outer : List Env} {s : Shared} {H : Hp} {E : XK} {B : Hp} {g0 : Gh} (hr : Room k (A.deeper (envOfC "_law_deck" (defScope s__law_deck) s.heap.objs.size f cdv))) :
    VSs (cxX P w K mg base ["_law_cell", "_law_turn"] "_law_deck" (defScope s__law_deck) f cdv A outer s H E) B g0 (defBody s__law_deck) (wf_law_deck) :=
  (vss_cons (vs_if (vt_cmp o_ge (vo_var (pv 0)) (ve_bin o_pow ve_int.vo ve_int.vo).vo)
  (vss_one (vs_ret (ve_lst (va_cons (ve_bin o_sub (vo_var (pv 0)) (ve_bin o_pow ve_int.vo ve_int.vo).vo) (va_cons (ve_bin o_mod (ve_callTy n_int1 (by rfl) nb.int bb_int (vu_cons (vo_var (pv 0)) vu_nil)).vo ve_int.vo) (va_cons (ve_var (pv 1)) va_nil))))))
  vss_nil)
  (vss_one (vs_ret (ve_lst (va_cons ve_int (va_cons (ve_bin o_mod (ve_callTy n_int1 (by rfl) nb.int bb_int (vu_cons (vo_var (pv 0)) vu_nil)).vo ve_int.vo) (va_cons (ve_var (pv 1)) va_nil)))))))

theorem sc__law_pick : FnScope ["_law_deck_here", "_law_limit", "_law_found", "_law_number"] ["_law_deck_here", "_law_limit"] (defScope s__law_pick) := ⟨rfl, rfl, rfl, by decide +kernel, rfl, by decide +kernel, by decide +kernel⟩
theorem b__law_pick {P : Program} {w : World} {K : PySem.W.Frag} {mg : Str → Option Value} {base : Heap} {k : Nat} (nb : Nob mg) {f : Addr} {cdv : Value} {A : Around} {outer : List Env} {s : Shared} {H : Hp} {E : XK} {B : Hp} {g0 : Gh} (hr : Room k (A.deeper (envOfC "_law_pick" (defScope s__law_pick) s.heap.objs.size f cdv))) :
    VSs (cxX P w K mg base ["_law_deck_here", "_law_limit", "_law_found", "_law_number"] "_law_pick" (defScope s__law_pick) f cdv A outer s H E) B g0 (defBody s__law_pick) (wf_law_pick) :=
  (vss_cons (vs_if (vt_cmp o_gt (ve_ix (o_ixX hr.u65) (vo_var (pv 0)) ve_int.vo).vo ve_int.vo)
  (vss_cons (vs_set (ve_bin o_mod (ve_callTy n_int1 (by rfl) nb.int bb_int (vu_cons (ve_ix (o_ixX hr.u65) (vo_var (pv 0)) ve_int.vo).vo vu_nil)).vo (vo_var (pv 1))) (fun _ h => ps_set (i := 2) sc__law_pick.nd (by rfl) (Or.inl (by rfl)) h))
  (vss_cons (vs_setX (ve_bin o_div (ve_ix (o_ixX hr.u65) (vo_var (pv 0)) ve_int.vo).vo (vo_var (pv 1))) (pv 0) ve_int.vo (fun _ _ _ h1 h2 h3 => ps_asg h1 (pg_sub h2 h3 (set_x hr.u65))))
  (vss_one (vs_ret (ve_mv (pv 2))))))
  vss_nil)
  (vss_cons (vs_setX (ve_bin o_add (ve_ix (o_ixX hr.u65) (vo_var (pv 0)) ve_int.vo).vo ve_int.vo) (pv 0) ve_int.vo (fun _ _ _ h1 h2 h3 => ps_asg h1 (pg_sub h2 h3 (set_x hr.u65))))
  (vss_cons (vs_set (ve_bin o_mod (ve_callTy n_int1 (by rfl) nb.int bb_int (vu_cons (ve_bin o_pow (ve_callTy n_int1 (by rfl) nb.int bb_int (vu_cons (ve_bin o_add (ve_ix (o_ixX hr.u65) (vo_var (pv 0)) ve_int.vo).vo (ve_bin o_mul ve_int.vo (ve_ix (o_ixX hr.u65) (vo_var (pv 0)) ve_int.vo).vo).vo).vo vu_nil)).vo ve_int.vo).vo vu_nil)).vo ve_int.vo) (fun _ h => ps_set (i := 3) sc__law_pick.nd (by rfl) (Or.inl (by rfl)) h))
  (vss_cons (vs_set (ve_bin o_div (ve_bin o_mod (ve_callTy n_int1 (by rfl) nb.int bb_int (vu_cons (ve_bin o_pow (ve_callTy n_int1 (by rfl) nb.int bb_int (vu_cons (ve_bin o_add (vo_var (pv 3)) (ve_bin o_mul ve_int.vo (ve_ix (o_ixX hr.u65) (vo_var (pv 0)) ve_int.vo).vo).vo).vo vu_nil)).vo ve_int.vo).vo vu_nil)).vo ve_int.vo).vo ve_int.vo) (fun _ h => ps_set (i := 2) sc__law_pick.nd (by rfl) (Or.inl (by rfl)) h))
  (vss_one (vs_ret (ve_bin o_mod (ve_callTy n_int1 (by rfl) nb.int bb_int (vu_cons (vo_var (pv 2)) vu_nil)).vo (vo_var (pv 1)))))))))

theorem sc__law_one : FnScope ["_law_deck_here", "_law_some"] ["_law_deck_here", "_law_some"] (defScope s__law_one) := ⟨rfl, rfl, rfl, by decide +kernel, rfl, by decide +kernel, by decide +kernel⟩
theorem b__law_one {P : Program} {w : World} {K : PySem.W.Frag} {mg : Str → Option Value} {base : Heap} {k : Nat} (nb : Nob mg) {sp__law_pick : FSpec} {k__law_pick : Nat} (F__law_pick : FnV P w K mg base "_law_pick" 2 k__law_pick sp__law_pick) (h__law_pick : k__law_pick ≤ k) {f : Addr} {cdv : Value} {A : Around} {outer : List Env} {s : Shared} {H : Hp} {E : XK} {B : Hp} {g0 : Gh} (hr : Room k (A.deeper (envOfC "_law_one" (defScope s__law_one) s.heap.objs.size f cdv))) :
    VSs (cxX P w K mg base ["_law_deck_here", "_law_some"] "_law_one" (defScope s__law_one) f cdv A outer s H E) B g0 (defBody s__law_one) (wf_law_one sp__law_pick) :=
  (vss_one (vs_ret (ve_ix (o_ixX hr.u65) (vo_var (pv 1)) (ve_call F__law_pick (hr.mono h__law_pick) (by rfl) (va_cons (ve_var (pv 0)) (va_cons (ve_callB n_lenX (by rfl) nb.len bb_len (vu_cons (vo_var (pv 1)) vu_nil)) va_nil))).vo)))

theorem sc__law_sort : FnScope ["_law_thing"] ["_law_thing"] (defScope s__law_sort) := ⟨rfl, rfl, rfl, by decide +kernel, rfl, by decide +kernel, by decide +kernel⟩
theorem b__law_sort {P : Program} {w : World} {K : PySem.W.Frag} {mg : Str → Option Value} {base : Heap} {k : Nat} (nb : Nob mg) {f : Addr} {cdv : Value} {A : Around} {outer : List Env} {s : Shared} {H : Hp} {E : XK} {B : Hp} {g0 : Gh} (hr : Room k (A.deeper (envOfC "_law_sort" (defScope s__law_sort) s.heap.objs.size f cdv))) :
    VSs (cxX P w K mg base ["_law_thing"] "_law_sort" (defScope s__law_sort) f cdv A outer s H E) B g0 (defBody s__law_sort) (wf_law_sort) :=
  (vss_cons (vs_if (vt_val (ve_isi hf_bl (by rfl) nb.isinstance (vo_var (pv 0)) (by rfl) nb.bool bb_bool))
  (vss_one (vs_ret ve_int))
  vss_nil)
  (vss_cons (vs_if (vt_val (ve_isi hf_int (by rfl) nb.isinstance (vo_var (pv 0)) (by rfl) nb.int bb_int))
  (vss_one (vs_ret ve_int))
  vss_nil)
  (vss_cons (vs_if (vt_val (ve_isi hf_str (by rfl) nb.isinstance (vo_var (pv 0)) (by rfl) nb.str bb_str))
  (vss_one (vs_ret ve_int))
  vss_nil)
  (vss_cons (vs_if (vt_val (ve_isi hf_lst (by rfl) nb.isinstance (vo_var (pv 0)) (by rfl) nb.list bb_list))
  (vss_one (vs_ret ve_int))
  vss_nil)
  (vss_one (vs_ret (ve_if (vt_val (ve_isi hf_tup (by rfl) nb.isinstance (vo_var (pv 0)) (by rfl) nb.tuple bb_tuple)) ve_int ve_int)))))))

theorem sc__law_same : FnScope ["_law_told_here", "_law_due_here", "_law_k", "_law_part"] ["_law_told_here", "_law_due_here"] (defScope s__law_same) := ⟨rfl, rfl, rfl, by decide +kernel, rfl, by decide +kernel, by decide +kernel⟩
theorem b__law_same {P : Program} {w : World} {K : PySem.W.Frag} {mg : Str → Option Value} {base : Heap} {k : Nat} (nb : Nob mg) {sp__law_sort : FSpec} {k__law_sort : Nat} (F__law_sort : FnV P w K mg base "_law_sort" 1 k__law_sort sp__law_sort) (h__law_sort : k__law_sort ≤ k) {sp__law_same : FSpec} {k__law_same : Nat} (F__law_same : FnV P w K mg base "_law_same" 2 k__law_same sp__law_same) (h__law_same : k__law_same ≤ k) {f : Addr} {cdv : Value} {A : Around} {outer : List Env} {s : Shared} {H : Hp} {E : XK} {B : Hp} {g0 : Gh} (hr : Room k (A.deeper (envOfC "_law_same" (defScope s__law_same) s.heap.objs.size f cdv))) :
    VSs (cxX P w K mg base ["_law_told_here", "_law_due_here", "_law_k", "_law_part"] "_law_same" (defScope s__law_same) f cdv A outer s H E) B g0 (defBody s__law_same) (wf_law_same_v2 sp__law_sort sp__law_same) :=
  (vss_cons (vs_if (vt_cmp (o_ne hr.units) (ve_call F__law_sort (hr.mono h__law_sort) (by rfl) (va_cons (ve_var (pv 0)) va_nil)).vo (ve_call F__law_sort (hr.mono h__law_sort) (by rfl) (va_cons (ve_var (pv 1)) va_nil)).vo)
  (vss_one (vs_ret ve_bl))
  vss_nil)
  (vss_cons (vs_if (vw_and (vt_cmp o_gt (ve_call F__law_sort (hr.mono h__law_sort) (by rfl) (va_cons (ve_var (pv 0)) va_nil)).vo ve_int.vo) (vw_and1 (vt_cmp o_lt (ve_call F__law_sort (hr.mono h__law_sort) (by rfl) (va_cons (ve_var (pv 0)) va_nil)).vo ve_int.vo))).vt
  (vss_cons (vs_if (vt_cmp (o_ne hr.units) (ve_callB n_lenX (by rfl) nb.len bb_len (vu_cons (vo_var (pv 0)) vu_nil)).vo (ve_callB n_lenX (by rfl) nb.len bb_len (vu_cons (vo_var (pv 1)) vu_nil)).vo)
  (vss_one (vs_ret ve_bl))
  vss_nil)
  (vss_one (vs_ret (ve_cmp (o_eq hr.units) (ve_lc (own := [("_law_k", 2), ("_law_part", 3)]) (is := ([2] ++ ([3] ++ []))) (by rfl) sc__law_same.nd (vi_enum (by rfl) nb.enumerate (va_cons (ve_var (pv 0)) va_nil)) (by rfl) ⟨fun _ _ _ _ _ _ _ => (vg_tupL (by rfl) (vgs_cons (vg_name (pg_name (i := 2) sc__law_same.nd (by rfl) (Or.inl (by rfl)))) (vgs_cons (vg_name (pg_name (i := 3) sc__law_same.nd (by rfl) (Or.inl (by rfl)))) vgs_nil)) (lenC exN (lenC exN lenN))), fun _ _ _ _ _ _ _ => (vts_one (vt_not (vt_val (ve_call F__law_same (hr.mono h__law_same) (by rfl) (va_cons (ve_var (pv 3)) (va_cons (ve_ix (o_ixX hr.u65) (vo_var (pv 1)) (vo_var (pv 2))) va_nil)))))), fun _ _ _ _ _ _ _ => (ve_var (pv 2))⟩ (by decide)).vo (ve_lst va_nil).vo))))
  vss_nil)
  (vss_one (vs_ret (ve_cmp (o_eq hr.units) (vo_var (pv 0)) (vo_var (pv 1)))))))

theorem sc__law_stage : FnScope ["_law_deck_here", "_law_top", "_law_bare", "_law_low", "_law_high", "_law_way"] ["_law_deck_here", "_law_top", "_law_bare"] (defScope s__law_stage) := ⟨rfl, rfl, rfl, by decide +kernel, rfl, by decide +kernel, by decide +kernel⟩
theorem b__law_stage {P : Program} {w : World} {K : PySem.W.Frag} {mg : Str → Option Value} {base : Heap} {k : Nat} (nb : Nob mg) {sp__law_pick : FSpec} {k__law_pick : Nat} (F__law_pick : FnV P w K mg base "_law_pick" 2 k__law_pick sp__law_pick) (h__law_pick : k__law_pick ≤ k) {f : Addr} {cdv : Value} {A : Around} {outer : List Env} {s : Shared} {H : Hp} {E : XK} {B : Hp} {g0 : Gh} (hr : Room k (A.deeper (envOfC "_law_stage" (defScope s__law_stage) s.heap.objs.size f cdv))) :
    VSs (cxX P w K mg base ["_law_deck_here", "_law_top", "_law_bare", "_law_low", "_law_high", "_law_way"] "_law_stage" (defScope s__law_stage) f cdv A outer s H E) B g0 (defBody s__law_stage) (wf_law_stage sp__law_pick) :=
  (vss_cons (vs_set (ve_call F__law_pick (hr.mono h__law_pick) (by rfl) (va_cons (ve_var (pv 0)) (va_cons (ve_bin o_add (vo_var (pv 1)) ve_int.vo) va_nil))) (fun _ h => ps_set (i := 3) sc__law_stage.nd (by rfl) (Or.inl (by rfl)) h))
  (vss_cons (vs_set (ve_bin o_add (vo_var (pv 3)) (ve_call F__law_pick (hr.mono h__law_pick) (by rfl) (va_cons (ve_var (pv 0)) (va_cons (ve_bin o_sub (ve_bin o_add (vo_var (pv 1)) ve_int.vo).vo (vo_var (pv 3))) va_nil))).vo) (fun _ h => ps_set (i := 4) sc__law_stage.nd (by rfl) (Or.inl (by rfl)) h))
  (vss_cons (vs_if (vw_or (vt_val (ve_var (pv 2))) (vw_or1 (vt_cmp (o_eq hr.units) (ve_call F__law_pick (hr.mono h__law_pick) (by rfl) (va_cons (ve_var (pv 0)) (va_cons ve_int va_nil))).vo ve_int.vo))).vt
  (vss_one (vs_ret (ve_tup (va_cons ve_str (va_cons (ve_var (pv 3)) (va_cons (ve_var (pv 4)) va_nil))))))
  vss_nil)
  (vss_cons (vs_set (ve_call F__law_pick (hr.mono h__law_pick) (by rfl) (va_cons (ve_var (pv 0)) (va_cons ve_int va_nil))) (fun _ h => ps_set (i := 5) sc__law_stage.nd (by rfl) (Or.inl (by rfl)) h))
  (vss_cons (vs_if (vt_cmp (o_eq hr.units) (vo_var (pv 5)) ve_int.vo)
  (vss_one (vs_ret (ve_tup (va_cons ve_str (va_cons (ve_var (pv 3)) (va_cons (ve_var (pv 4)) va_nil))))))
  vss_nil)
  (vss_cons (vs_if (vt_cmp (o_eq hr.units) (vo_var (pv 5)) ve_int.vo)
  (vss_one (vs_ret (ve_tup (va_cons ve_str (va_cons (ve_bin o_add ve_int.vo (ve_call F__law_pick (hr.mono h__law_pick) (by rfl) (va_cons (ve_var (pv 0)) (va_cons ve_int va_nil))).vo) va_nil)))))
  vss_nil)
  (vss_one (vs_ret (ve_tup (va_cons ve_str (va_cons (ve_call F__law_pick (hr.mono h__law_pick) (by rfl) (va_cons (ve_var (pv 0)) (va_cons (ve_callB (n_min2 (by rfl)) (by rfl) nb.min bb_min (vu_cons ve_int.vo (vu_cons (ve_bin o_add (vo_var (pv 1)) ve_int.vo).vo vu_nil))) va_nil))) (va_cons (ve_call F__law_pick (hr.mono h__law_pick) (by rfl) (va_cons (ve_var (pv 0)) (va_cons (ve_callB (n_min2 (by rfl)) (by rfl) nb.min bb_min (vu_cons ve_int.vo (vu_cons (ve_bin o_add (vo_var (pv 1)) ve_int.vo).vo vu_nil))) va_nil))) va_nil))))))))))))

theorem sc__law_chain : FnScope ["_law_deck_here", "_law_most", "_law_many", "_law_top", "_law_parts", "_law_bare", "_law_turn", "_law_part"] ["_law_deck_here", "_law_most", "_law_many"] (defScope s__law_chain) := ⟨rfl, rfl, rfl, by decide +kernel, rfl, by decide +kernel, by decide +kernel⟩
theorem b__law_chain {P : Program} {w : World} {K : PySem.W.Frag} {mg : Str → Option Value} {base : Heap} {k : Nat} (nb : Nob mg) {sp__law_pick : FSpec} {k__law_pick : Nat} (F__law_pick : FnV P w K mg base "_law_pick" 2 k__law_pick sp__law_pick) (h__law_pick : k__law_pick ≤ k) {sp__law_stage : FSpec} {k__law_stage : Nat} (F__law_stage : FnV P w K mg base "_law_stage" 3 k__law_stage sp__law_stage) (h__law_stage : k__law_stage ≤ k) {f : Addr} {cdv : Value} {A : Around} {outer : List Env} {s : Shared} {H : Hp} {E : XK} {B : Hp} {g0 : Gh} (hr : Room k (A.deeper (envOfC "_law_chain" (defScope s__law_chain) s.heap.objs.size f cdv))) :
    VSs (cxX P w K mg base ["_law_deck_here", "_law_most", "_law_many", "_law_top", "_law_parts", "_law_bare", "_law_turn", "_law_part"] "_law_chain" (defScope s__law_chain) f cdv A outer s H E) B g0 (defBody s__law_chain) (wf_law_chain sp__law_pick sp__law_stage) :=
  (vss_cons (vs_pr3 (vl_cons (ve_bin o_add ve_int.vo (ve_call F__law_pick (hr.mono h__law_pick) (by rfl) (va_cons (ve_var (pv 0)) (va_cons (ve_var (pv 1)) va_nil))).vo) (fun _ _ => (vl_cons (ve_tup va_nil) (fun _ _ => (vl_cons ve_int (fun _ _ => vl_nil)))))) (fun _ h => ps_par3 (by rfl) sc__law_chain.nd (by rfl) (by rfl) (by rfl) (by decide) (by decide) (by decide) (by rfl) (by rfl) (by rfl) h (by rfl)))
  (vss_cons (vs_for PassesOwn.never (by rfl) (vi_range1 (by rfl) nb.range (va_cons (ve_call F__law_pick (hr.mono h__law_pick) (by rfl) (va_cons (ve_var (pv 0)) (va_cons (ve_bin o_add (vo_var (pv 2)) ve_int.vo) va_nil))) va_nil)) (vg_name (pg_name (i := 6) sc__law_chain.nd (by rfl) (Or.inl (by rfl))))
  (vss_cons (vs_set (ve_call F__law_stage (hr.mono h__law_stage) (by rfl) (va_cons (ve_var (pv 0)) (va_cons (ve_var (pv 3)) (va_cons (ve_cmp (o_eq hr.units) (vo_var (pv 5)) ve_int.vo) va_nil)))) (fun _ h => ps_set (i := 7) sc__law_chain.nd (by rfl) (Or.inl (by rfl)) h))
  (vss_cons (vs_set (ve_bin o_add (vo_var (pv 5)) (ve_if (vt_cmp (o_eq hr.units) (ve_ix (o_ixX hr.u65) (vo_var (pv 7)) ve_int.vo).vo ve_str.vo) ve_int ve_int).vo) (fun _ h => ps_set (i := 5) sc__law_chain.nd (by rfl) (Or.inl (by rfl)) h))
  (vss_one (vs_set (ve_bin o_add (vo_var (pv 4)) (ve_tup (va_cons (ve_var (pv 7)) va_nil)).vo) (fun _ h => ps_set (i := 4) sc__law_chain.nd (by rfl) (Or.inl (by rfl)) h))))))
  (vss_one (vs_ret (ve_tup (va_cons (ve_var (pv 3)) (va_cons (ve_call F__law_pick (hr.mono h__law_pick) (by rfl) (va_cons (ve_var (pv 0)) (va_cons (ve_bin o_add (vo_var (pv 3)) ve_int.vo) va_nil))) (va_cons (ve_var (pv 4)) va_nil))))))))

theorem sc__law_text : FnScope ["_law_c", "_law_parts", "_law_part", "_law_number"] ["_law_c"] (defScope s__law_text) := ⟨rfl, rfl, rfl, by decide +kernel, rfl, by decide +kernel, by decide +kernel⟩
theorem b__law_text {P : Program} {w : World} {K : PySem.W.Frag} {mg : Str → Option Value} {base : Heap} {k : Nat} (nb : Nob mg) {f : Addr} {cdv : Value} {A : Around} {outer : List Env} {s : Shared} {H : Hp} {E : XK} {B : Hp} {g0 : Gh} (hr : Room k (A.deeper (envOfC "_law_text" (defScope s__law_text) s.heap.objs.size f cdv))) :
    VSs (cxX P w K mg base ["_law_c", "_law_parts", "_law_part", "_law_number"] "_law_text" (defScope s__law_text) f cdv A outer s H E) B g0 (defBody s__law_text) (wf_law_text) :=
  (vss_cons (vs_setLc (own := [("_law_part", 2)]) (is := [2]) (by rfl) sc__law_text.nd (by rfl) (by rfl) (by rfl) (vi_wk (ve_ix (o_ixX hr.u65) (vo_var (pv 0)) ve_int.vo)) (by rfl) ⟨fun _ _ _ _ _ _ _ => (vg_name (pg_name (i := 2) sc__law_text.nd (by rfl) (Or.inl (by rfl)))), fun _ _ _ _ _ _ _ => vts_nil, fun _ _ _ _ _ _ _ => (ve_sm PySem.F.slot_str_join PySem.F.type_str_join s_join ve_str.vo (ve_bin o_add (ve_lst (va_cons (ve_ix (o_ixX hr.u65) (vo_var (pv 2)) ve_int.vo) va_nil)).vo (ve_lc (own := [("_law_number", 3)]) (is := [3]) (by rfl) sc__law_text.nd (vi_wk (ve_slice (vo_var (pv 2)) (vp_some ve_int) vp_none)) (by rfl) ⟨fun _ _ _ _ _ _ _ => (vg_name (pg_name (i := 3) sc__law_text.nd (by rfl) (Or.inl (by rfl)))), fun _ _ _ _ _ _ _ => vts_nil, fun _ _ _ _ _ _ _ => (ve_callTy n_str1 (by rfl) nb.str bb_str (vu_cons (vo_var (pv 3)) vu_nil))⟩ (by decide)).vo).vo)⟩ (by decide))
  (vss_one (vs_ret (ve_bin o_add (ve_bin o_add (ve_bin o_add (ve_callTy n_str1 (by rfl) nb.str bb_str (vu_cons (ve_ix (o_ixX hr.u65) (vo_var (pv 0)) ve_int.vo).vo vu_nil)).vo ve_str.vo).vo (ve_callTy n_str1 (by rfl) nb.str bb_str (vu_cons (ve_ix (o_ixX hr.u65) (vo_var (pv 0)) ve_int.vo).vo vu_nil)).vo).vo (ve_if (vt_cmp (o_ne hr.units) (vo_var (pv 1)) (ve_lst va_nil).vo) (ve_bin o_add ve_str.vo (ve_sm PySem.F.slot_str_join PySem.F.type_str_join s_join ve_str.vo (vo_var (pv 1))).vo) ve_str).vo))))

theorem sc__law_stages : FnScope ["_law_top", "_law_found", "_law_low", "_law_high", "_law_word"] ["_law_top"] (defScope s__law_stages) := ⟨rfl, rfl, rfl, by decide +kernel, rfl, by decide +kernel, by decide +kernel⟩
theorem b__law_stages {P : Program} {w : World} {K : PySem.W.Frag} {mg : Str → Option Value} {base : Heap} {k : Nat} (nb : Nob mg) {f : Addr} {cdv : Value} {A : Around} {outer : List Env} {s : Shared} {H : Hp} {E : XK} {B : Hp} {g0 : Gh} (hr : Room k (A.deeper (envOfC "_law_stages" (defScope s__law_stages) s.heap.objs.size f cdv))) :
    VSs (cxX P w K mg base ["_law_top", "_law_found", "_law_low", "_law_high", "_law_word"] "_law_stages" (defScope s__law_stages) f cdv A outer s H E) B g0 (defBody s__law_stages) (wf_law_stages) :=
  (vss_cons (vs_set (ve_dct2 (fun _ _ => (ve_tup (va_cons ve_str (va_cons ve_int va_nil)))) (fun _ _ => (ve_tup (va_cons ve_str (va_cons ve_int va_nil)))) (by decide)) (fun _ h => ps_set (i := 1) sc__law_stages.nd (by rfl) (Or.inl (by rfl)) h))
  (vss_cons (vs_for PassesOwn.never (by rfl) (vi_range1 (by rfl) nb.range (va_cons ve_int va_nil)) (vg_name (pg_name (i := 2) sc__law_stages.nd (by rfl) (Or.inl (by rfl))))
  (vss_one (vs_for PassesOwn.never (by rfl) (vi_range1 (by rfl) nb.range (va_cons ve_int va_nil)) (vg_name (pg_name (i := 3) sc__law_stages.nd (by rfl) (Or.inl (by rfl))))
  (vss_one (vs_for PassesOwn.never (by rfl) (vi_wk (ve_tup (va_cons ve_str (va_cons ve_str (va_cons ve_str va_nil))))) (vg_name (pg_name (i := 4) sc__law_stages.nd (by rfl) (Or.inl (by rfl))))
  (vss_one (vs_if (vw_or (vt_cmp (o_eq hr.units) (vo_var (pv 4)) ve_str.vo) (vw_or1 (vt_chain o_le o_le (vo_var (pv 2)) (vo_var (pv 3)) (vo_var (pv 0))))).vt
  (vss_one (vs_setX (ve_tup (va_cons (ve_var (pv 4)) (va_cons (ve_var (pv 2)) (va_cons (ve_var (pv 3)) va_nil)))) (pv 1) (ve_bin o_add (ve_bin o_add (ve_bin o_add (ve_bin o_add (vo_var (pv 4)) ve_str.vo).vo (ve_callTy n_str1 (by rfl) nb.str bb_str (vu_cons (vo_var (pv 2)) vu_nil)).vo).vo ve_str.vo).vo (ve_callTy n_str1 (by rfl) nb.str bb_str (vu_cons (vo_var (pv 3)) vu_nil)).vo).vo (fun _ _ _ h1 h2 h3 => ps_asg h1 (pg_sub h2 h3 (set_x hr.u65)))))
  vss_nil)))))))
  (vss_one (vs_ret (ve_mv (pv 1))))))

theorem sc__law_read : FnScope ["_law_line", "_law_top", "_law_at", "_law_head", "_law_known", "_law_words", "_law_parts", "_law_bare", "_law_word", "_law_part"] ["_law_line"] (defScope s__law_read) := ⟨rfl, rfl, rfl, by decide +kernel, rfl, by decide +kernel, by decide +kernel⟩
theorem b__law_read {P : Program} {w : World} {K : PySem.W.Frag} {mg : Str → Option Value} {base : Heap} {k : Nat} (nb : Nob mg) {sp__law_stages : FSpec} {k__law_stages : Nat} (F__law_stages : FnV P w K mg base "_law_stages" 1 k__law_stages sp__law_stages) (h__law_stages : k__law_stages ≤ k) {f : Addr} {cdv : Value} {A : Around} {outer : List Env} {s : Shared} {H : Hp} {E : XK} {B : Hp} {g0 : Gh} (hr : Room k (A.deeper (envOfC "_law_read" (defScope s__law_read) s.heap.objs.size f cdv))) :
    VSs (cxX P w K mg base ["_law_line", "_law_top", "_law_at", "_law_head", "_law_known", "_law_words", "_law_parts", "_law_bare", "_law_word", "_law_part"] "_law_read" (defScope s__law_read) f cdv A outer s H E) B g0 (defBody s__law_read) (wf_law_read sp__law_stages) :=
  (vss_cons (vs_for PassesOwn.never (by rfl) (vi_range2 (by rfl) nb.range (va_cons ve_int (va_cons ve_int va_nil))) (vg_name (pg_name (i := 1) sc__law_read.nd (by rfl) (Or.inl (by rfl))))
  (vss_one (vs_for PassesOwn.never (by rfl) (vi_range1 (by rfl) nb.range (va_cons (ve_bin o_add (vo_var (pv 1)) ve_int.vo) va_nil)) (vg_name (pg_name (i := 2) sc__law_read.nd (by rfl) (Or.inl (by rfl))))
  (vss_cons (vs_set (ve_bin o_add (ve_bin o_add (ve_callTy n_str1 (by rfl) nb.str bb_str (vu_cons (vo_var (pv 1)) vu_nil)).vo ve_str.vo).vo (ve_callTy n_str1 (by rfl) nb.str bb_str (vu_cons (vo_var (pv 2)) vu_nil)).vo) (fun _ h => ps_set (i := 3) sc__law_read.nd (by rfl) (Or.inl (by rfl)) h))
  (vss_cons (vs_if (vt_cmp (o_eq hr.units) (vo_var (pv 0)) (vo_var (pv 3)))
  (vss_one (vs_ret (ve_tup (va_cons (ve_var (pv 1)) (va_cons (ve_var (pv 2)) (va_cons (ve_tup va_nil) va_nil))))))
  vss_nil)
  (vss_one (vs_if (vt_val (ve_sm PySem.F.slot_str_startswith PySem.F.type_str_startswith s_starts (vo_var (pv 0)) (ve_bin o_add (vo_var (pv 3)) ve_str.vo).vo))
  (vss_cons (vs_pr2C (vl_cons (ve_call F__law_stages (hr.mono h__law_stages) (by rfl) (va_cons (ve_var (pv 1)) va_nil)) (fun _ _ => (vl_cons (ve_sm PySem.F.slot_str_split PySem.F.type_str_split s_split (ve_slT (vo_var (pv 0)) (vp_some (ve_bin o_add (ve_callB n_lenX (by rfl) nb.len bb_len (vu_cons (vo_var (pv 3)) vu_nil)).vo ve_int.vo)) vp_none).vo ve_str.vo) (fun _ _ => vl_nil)))) (fun _ h => ps_tupC2 (by rfl) sc__law_read.nd (by rfl) (by rfl) (.inr (by rfl)) (.inl (by rfl)) (.inl (by rfl)) (.inr (by rfl)) h (by rfl)))
  (vss_cons (vs_set (ve_callTy n_tuple (by rfl) nb.tuple bb_tuple (vu_cons (ve_lc (own := [("_law_word", 8)]) (is := [8]) (by rfl) sc__law_read.nd (vi_wk (ve_var (pv 5))) (by rfl) ⟨fun _ _ _ _ _ _ _ => (vg_name (pg_name (i := 8) sc__law_read.nd (by rfl) (Or.inl (by rfl)))), fun _ _ _ _ _ _ _ => vts_nil, fun _ _ _ _ _ _ _ => (ve_mth PySem.F.slot_dict_get PySem.F.type_dict_get (n_get hr.u65) (vo_var (pv 4)) (vu_cons (vo_var (pv 8)) (vu_cons ve_non.vo vu_nil)))⟩ (by decide)).vo vu_nil)) (fun _ h => ps_set (i := 6) sc__law_read.nd (by rfl) (Or.inl (by rfl)) h))
  (vss_cons (vs_setLc (own := [("_law_part", 9)]) (is := [9]) (by rfl) sc__law_read.nd (by rfl) (by rfl) (by rfl) (vi_wk (ve_var (pv 6))) (by rfl) ⟨fun _ _ _ _ _ _ _ => (vg_name (pg_name (i := 9) sc__law_read.nd (by rfl) (Or.inl (by rfl)))), fun _ _ _ _ _ _ _ => (vts_one (vw_and (vt_cmp o_isnot (vo_var (pv 9)) ve_non.vo) (vw_and1 (vt_cmp (o_ne hr.units) (ve_ix (o_ixX hr.u65) (vo_var (pv 9)) ve_int.vo).vo ve_str.vo))).vt), fun _ _ _ _ _ _ _ => (ve_var (pv 9))⟩ (by decide))
  (vss_one (vs_ret (ve_if (vw_and (vt_cmp (o_inXt hr.u65) ve_non.vo (vo_var (pv 6))) (vw_and (vt_cmp o_lt (ve_callB n_lenX (by rfl) nb.len bb_len (vu_cons (vo_var (pv 6)) vu_nil)).vo ve_int.vo) (vw_and1 (vt_cmp o_lt (ve_callB n_lenX (by rfl) nb.len bb_len (vu_cons (vo_var (pv 7)) vu_nil)).vo ve_int.vo)))).vt (ve_tup (va_cons (ve_var (pv 1)) (va_cons (ve_var (pv 2)) (va_cons (ve_var (pv 6)) va_nil)))) ve_non))))))
  vss_nil)))))))
  (vss_one (vs_ret ve_non)))

theorem sc__law_due : FnScope ["_law_text_here", "_law_found", "_law_place", "_law_line", "_law_one_here"] ["_law_text_here"] (defScope s__law_due) := ⟨rfl, rfl, rfl, by decide +kernel, rfl, by decide +kernel, by decide +kernel⟩
theorem b__law_due {P : Program} {w : World} {K : PySem.W.Frag} {mg : Str → Option Value} {base : Heap} {k : Nat} (nb : Nob mg) {sp__law_read : FSpec} {k__law_read : Nat} (F__law_read : FnV P w K mg base "_law_read" 1 k__law_read sp__law_read) (h__law_read : k__law_read ≤ k) {f : Addr} {cdv : Value} {A : Around} {outer : List Env} {s : Shared} {H : Hp} {E : XK} {B : Hp} {g0 : Gh} (hr : Room k (A.deeper (envOfC "_law_due" (defScope s__law_due) s.heap.objs.size f cdv))) :
    VSs (cxX P w K mg base ["_law_text_here", "_law_found", "_law_place", "_law_line", "_law_one_here"] "_law_due" (defScope s__law_due) f cdv A outer s H E) B g0 (defBody s__law_due) (wf_law_due sp__law_read) :=
  (vss_cons (vs_set (ve_tup va_nil) (fun _ h => ps_set (i := 1) sc__law_due.nd (by rfl) (Or.inl (by rfl)) h))
  (vss_cons (vs_for PassesOwn.never (by rfl) (vi_enum (by rfl) nb.enumerate (va_cons (ve_if (vt_cmp (o_ne hr.units) (vo_var (pv 0)) ve_str.vo) (ve_sm PySem.F.slot_str_split PySem.F.type_str_split s_split (vo_var (pv 0)) ve_str.vo) (ve_lst va_nil)) va_nil)) (vg_tupL (by rfl) (vgs_cons (vg_name (pg_name (i := 2) sc__law_due.nd (by rfl) (Or.inl (by rfl)))) (vgs_cons (vg_name (pg_name (i := 3) sc__law_due.nd (by rfl) (Or.inl (by rfl)))) vgs_nil)) (lenC exN (lenC exN lenN)))
  (vss_cons (vs_set (ve_call F__law_read (hr.mono h__law_read) (by rfl) (va_cons (ve_var (pv 3)) va_nil)) (fun _ h => ps_set (i := 4) sc__law_due.nd (by rfl) (Or.inl (by rfl)) h))
  (vss_cons (vs_if (vt_cmp o_is (vo_var (pv 4)) ve_non.vo)
  (vss_one (vs_ret (ve_bin o_add (vo_var (pv 2)) ve_int.vo)))
  vss_nil)
  (vss_one (vs_set (ve_bin o_add (vo_var (pv 1)) (ve_tup (va_cons (ve_var (pv 4)) va_nil)).vo) (fun _ h => ps_set (i := 1) sc__law_due.nd (by rfl) (Or.inl (by rfl)) h))))))
  (vss_one (vs_ret (ve_mv (pv 1))))))

theorem sc__law_told : FnScope ["_law_text_here", "_law_e"] ["_law_text_here"] (defScope s__law_told) := ⟨rfl, rfl, rfl, by decide +kernel, rfl, by decide +kernel, by decide +kernel⟩
theorem b__law_told {P : Program} {w : World} {K : PySem.W.Frag} {mg : Str → Option Value} {base : Heap} {k : Nat} (nb : Nob mg) (xf_InvalidText : XfF K mg "InvalidText" "line") {spx_read_chains : FSpec} {kx_read_chains : Nat} (FX_read_chains : FnX P w K mg base "read_chains" 1 kx_read_chains spx_read_chains) (hx_read_chains : kx_read_chains ≤ k) {f : Addr} {cdv : Value} {A : Around} {outer : List Env} {s : Shared} {H : Hp} {E : XK} {B : Hp} {g0 : Gh} (hr : Room k (A.deeper (envOfC "_law_told" (defScope s__law_told) s.heap.objs.size f cdv))) :
    VSs (cxX P w K mg base ["_law_text_here", "_law_e"] "_law_told" (defScope s__law_told) f cdv A outer s H E) B g0 (defBody s__law_told) (wf_law_told spx_read_chains) :=
  (vss_one (vs_tryAs (i := 1) rfl rfl sc__law_told.nd (by rfl) (by rfl) (by rfl) (by decide) (.inl (by rfl)) (by decide) (by decide) xf_InvalidText (fun pn xe Ex2 hx2 po => (vss_one (vs_ret (ve_callX hx2 FX_read_chains (hr.mono hx_read_chains) (by rfl) (va_cons (ve_var (pv 0)) va_nil)))))))

theorem sc_law : FnScope ["_law_script", "_law_k", "_law_deck_here", "_law_some", "_law_lines", "_law_text_here", "_law_turn", "_law_at", "_law_sign", "_law_new", "_law_odd", "_law_wrong", "_law_c"] ["_law_script"] (defScope s_law) := ⟨rfl, rfl, rfl, by decide +kernel, rfl, by decide +kernel, by decide +kernel⟩
theorem b_law {P : Program} {w : World} {K : PySem.W.Frag} {mg : Str → Option Value} {base : Heap} {k : Nat} {k0 : Nat} (TR : TryF P w K mg base (k0 + 1)) (h0 : k0 + 2 ≤ k) (TB : LamX.TabB base mg (He.cT K ("law", none)).1 (He.cT K ("law", none)).2) (nb : Nob mg) {sp__law_told : FSpec} {k__law_told : Nat} (F__law_told : FnV P w K mg base "_law_told" 1 k__law_told sp__law_told) (h__law_told : k__law_told ≤ k) {sp__law_same : FSpec} {k__law_same : Nat} (F__law_same : FnV P w K mg base "_law_same" 2 k__law_same sp__law_same) (h__law_same : k__law_same ≤ k) {sp__law_due : FSpec} {k__law_due : Nat} (F__law_due : FnV P w K mg base "_law_due" 1 k__law_due sp__law_due) (h__law_due : k__law_due ≤ k) {sp__law_pick : FSpec} {k__law_pick : Nat} (F__law_pick : FnV P w K mg base "_law_pick" 2 k__law_pick sp__law_pick) (h__law_pick : k__law_pick ≤ k) {sp__law_one : FSpec} {k__law_one : Nat} (F__law_one : FnV P w K mg base "_law_one" 2 k__law_one sp__law_one) (h__law_one : k__law_one ≤ k) {sp_chain_text : FSpec} {k_chain_text : Nat} (F_chain_text : FnV P w K mg base "chain_text" 1 k_chain_text sp_chain_text) (h_chain_text : k_chain_text ≤ k) {sp__law_text : FSpec} {k__law_text : Nat} (F__law_text : FnV P w K mg base "_law_text" 1 k__law_text sp__law_text) (h__law_text : k__law_text ≤ k) {sp__law_chain : FSpec} {k__law_chain : Nat} (F__law_chain : FnV P w K mg base "_law_chain" 3 k__law_chain sp__law_chain) (h__law_chain : k__law_chain ≤ k) {sp__law_deck : FSpec} {k__law_deck : Nat} (F__law_deck : FnV P w K mg base "_law_deck" 2 k__law_deck sp__law_deck) (h__law_deck : k__law_deck ≤ k) {spx_read_chains : FSpec} {kx_read_chains : Nat} (FX_read_chains : FnX P w K mg base "read_chains" 1 kx_read_chains spx_read_chains) (hx_read_chains : kx_read_chains ≤ k0) {f : Addr} {cdv : Value} {A : Around} {outer : List Env} {s : Shared} {H : Hp} {E : XK} {B : Hp} {g0 : Gh} (hr : Room k (A.deeper (envOfC "law" (defScope s_law) s.heap.objs.size f cdv))) (hcd : cdv = .ref (He.cT K ("law", none)).1) :
    VSs (cxX P w K mg base ["_law_script", "_law_k", "_law_deck_here", "_law_some", "_law_lines", "_law_text_here", "_law_turn", "_law_at", "_law_sign", "_law_new", "_law_odd", "_law_wrong", "_law_c"] "law" (defScope s_law) f cdv A outer s H E) B g0 (defBody s_law) (wf_law_k23 sp__law_told sp__law_same sp__law_due sp__law_pick sp__law_one sp_chain_text sp__law_text sp__law_chain sp__law_deck spx_read_chains) :=
  (vss_cons (vs_for PassesOwn.never (by rfl) (vi_range1 (by rfl) nb.range (va_cons ve_int va_nil)) (vg_name (pg_name (i := 1) sc_law.nd (by rfl) (Or.inl (by rfl))))
  (vss_cons (vs_pub (ve_call F__law_deck (hr.mono h__law_deck) (by rfl) (va_cons (ve_ix (o_ixX hr.u65) (ve_bin o_add (vo_var (pv 0)) (ve_bin o_mul (ve_lst (va_cons ve_int va_nil)).vo ve_int.vo).vo).vo (vo_var (pv 1))) (va_cons (ve_var (pv 1)) va_nil))) (fun _ h => ps_set (i := 2) sc_law.nd (by rfl) (Or.inr (by rfl)) h))
  (vss_cons (vs_set (ve_callTy n_tuple (by rfl) nb.tuple bb_tuple (vu_cons (ve_lc (own := [("_law_turn", 6)]) (is := [6]) (by rfl) sc_law.nd (vi_range1 (by rfl) nb.range (va_cons (ve_call F__law_pick (hr.mono h__law_pick) (by rfl) (va_cons (ve_var (pv 2)) (va_cons ve_int va_nil))) va_nil)) (by rfl) ⟨fun _ _ _ _ _ _ _ => (vg_name (pg_name (i := 6) sc_law.nd (by rfl) (Or.inl (by rfl)))), fun _ _ _ _ _ _ _ => vts_nil, fun _ _ _ _ _ _ _ => (ve_call F__law_chain (hr.mono h__law_chain) (by rfl) (va_cons (ve_var (pv 2)) (va_cons ve_int (va_cons ve_int va_nil))))⟩ (by decide)).vo vu_nil)) (fun _ h => ps_set (i := 3) sc_law.nd (by rfl) (Or.inl (by rfl)) h))
  (vss_cons (vs_setLc (own := [("_law_c", 12)]) (is := [12]) (by rfl) sc_law.nd (by rfl) (by rfl) (by rfl) (vi_wk (ve_var (pv 3))) (by rfl) ⟨fun _ _ _ _ _ _ _ => (vg_name (pg_name (i := 12) sc_law.nd (by rfl) (Or.inl (by rfl)))), fun _ _ _ _ _ _ _ => vts_nil, fun _ _ _ _ _ _ _ => (ve_call F__law_text (hr.mono h__law_text) (by rfl) (va_cons (ve_var (pv 12)) va_nil))⟩ (by decide))
  (vss_cons (vs_if (vw_or (vt_cmp (o_ne hr.units) (ve_lc (own := [("_law_c", 12)]) (is := [12]) (by rfl) sc_law.nd (vi_wk (ve_var (pv 3))) (by rfl) ⟨fun _ _ _ _ _ _ _ => (vg_name (pg_name (i := 12) sc_law.nd (by rfl) (Or.inl (by rfl)))), fun _ _ _ _ _ _ _ => vts_nil, fun _ _ _ _ _ _ _ => (ve_call F_chain_text (hr.mono h_chain_text) (by rfl) (va_cons (ve_var (pv 12)) va_nil))⟩ (by decide)).vo (vo_var (pv 4))) (vw_or1 (vt_not (vt_val (ve_call F__law_same (hr.mono h__law_same) (by rfl) (va_cons (ve_call F__law_told (hr.mono h__law_told) (by rfl) (va_cons (ve_sm PySem.F.slot_str_join PySem.F.type_str_join s_join ve_str.vo (vo_var (pv 4))) va_nil)) (va_cons (ve_var (pv 3)) va_nil))))))).vt
  (vss_one (vs_ret ve_bl))
  vss_nil)
  (vss_cons (vs_set (ve_sm PySem.F.slot_str_join PySem.F.type_str_join s_join ve_str.vo (vo_var (pv 4))) (fun _ h => ps_set (i := 5) sc_law.nd (by rfl) (Or.inl (by rfl)) h))
  (vss_one (vs_for PassesOwn.never (by rfl) (vi_range1 (by rfl) nb.range (va_cons ve_int va_nil)) (vg_name (pg_name (i := 6) sc_law.nd (by rfl) (Or.inl (by rfl))))
  (vss_cons (vs_set (ve_call F__law_pick (hr.mono h__law_pick) (by rfl) (va_cons (ve_var (pv 2)) (va_cons (ve_bin o_add (ve_callB n_lenX (by rfl) nb.len bb_len (vu_cons (vo_var (pv 5)) vu_nil)).vo ve_int.vo) va_nil))) (fun _ h => ps_set (i := 7) sc_law.nd (by rfl) (Or.inl (by rfl)) h))
  (vss_cons (vs_set (ve_call F__law_one (hr.mono h__law_one) (by rfl) (va_cons (ve_var (pv 2)) (va_cons (ve_lst (va_cons ve_str (va_cons ve_str (va_cons ve_str (va_cons ve_str (va_cons ve_str (va_cons ve_str (va_cons ve_str (va_cons ve_str (va_cons ve_str (va_cons ve_str (va_cons ve_str (va_cons ve_str va_nil))))))))))))) va_nil))) (fun _ h => ps_set (i := 8) sc_law.nd (by rfl) (Or.inl (by rfl)) h))
  (vss_cons (vs_set (ve_bin o_add (ve_bin o_add (ve_slT (vo_var (pv 5)) vp_none (vp_some (ve_var (pv 7)))).vo (vo_var (pv 8))).vo (ve_slT (vo_var (pv 5)) (vp_some (ve_bin o_add (vo_var (pv 7)) (ve_call F__law_pick (hr.mono h__law_pick) (by rfl) (va_cons (ve_var (pv 2)) (va_cons ve_int va_nil))).vo)) vp_none).vo) (fun _ h => ps_set (i := 9) sc_law.nd (by rfl) (Or.inl (by rfl)) h))
  (vss_one (vs_if (vt_not (vt_val (ve_call F__law_same (hr.mono h__law_same) (by rfl) (va_cons (ve_call F__law_told (hr.mono h__law_told) (by rfl) (va_cons (ve_var (pv 9)) va_nil)) (va_cons (ve_call F__law_due (hr.mono h__law_due) (by rfl) (va_cons (ve_var (pv 9)) va_nil)) va_nil)))))
  (vss_one (vs_ret ve_bl))
  vss_nil)))))))))))))
  (vss_cons (vs_for PassesOwn.never (by rfl) (vi_wk (ve_tup (va_cons ve_non (va_cons ve_int (va_cons (ve_lst va_nil) (va_cons (ve_tup va_nil) va_nil)))))) (vg_name (pg_name (i := 10) sc_law.nd (by rfl) (Or.inr (by rfl))))
  (vss_one (vs_if (vw_or (vt_cmp (o_ne hr.units) (ve_call F__law_told (hr.mono h__law_told) (by rfl) (va_cons (ve_var (pv 10)) va_nil)).vo ve_int.vo) (vw_or1 (vt_cmp (o_ne hr.units) (ve_tryD (k := k0) TR (by rfl) TB hcd lam_qual (hr.mono h0) (lam_scope (by decide +kernel)) (by rfl) (fun _ _ _ _ _ => rfl) (fun A2 outer2 s2 H2 E2 f2 c2 B2 g2 Ex2 hr2 hx2 => (ve_callX hx2 FX_read_chains (hr2.mono hx_read_chains) (by rfl) (va_cons (ve_var (pv 10)) va_nil)))).vo ve_str.vo))).vt
  (vss_one (vs_ret ve_bl))
  vss_nil)))
  (vss_cons (vs_set (ve_lst (va_cons ve_str (va_cons ve_str (va_cons ve_str (va_cons ve_str (va_cons ve_str (va_cons ve_str va_nil))))))) (fun _ h => ps_set (i := 11) sc_law.nd (by rfl) (Or.inl (by rfl)) h))
  (vss_cons (vs_for PassesOwn.never (by rfl) (vi_wk (ve_bin o_add (vo_var (pv 11)) (ve_lst (va_cons (ve_bin o_add ve_str.vo (ve_bin o_mulS ve_str.vo ve_int.vo).vo) va_nil)).vo)) (vg_name (pg_name (i := 10) sc_law.nd (by rfl) (Or.inr (by rfl))))
  (vss_one (vs_if (vt_cmp (o_ne hr.units) (ve_call F__law_told (hr.mono h__law_told) (by rfl) (va_cons (ve_bin o_add ve_str.vo (vo_var (pv 10))) va_nil)).vo ve_int.vo)
  (vss_one (vs_ret ve_bl))
  vss_nil)))
  (vss_one (vs_ret (ve_and (ve_cmp (o_eq hr.units) (ve_call F__law_told (hr.mono h__law_told) (by rfl) (va_cons ve_str va_nil)).vo ve_int.vo) (ve_and (ve_cmp (o_eq hr.units) (ve_call F__law_told (hr.mono h__law_told) (by rfl) (va_cons ve_str va_nil)).vo (ve_tup va_nil).vo) (ve_one (ve_cmp (o_eq hr.units) (ve_call F__law_told (hr.mono h__law_told) (by rfl) (va_cons ve_str va_nil)).vo ve_int.vo))))))))))

theorem sc__law_name_of : FnScope N6 ["_law_e"] (defScope s__law_name_of) := ⟨rfl, rfl, rfl, by decide +kernel, rfl, by decide +kernel, by decide +kernel⟩
theorem sc__law_try : FnScope ["_law_door", "_law_found", "_law_e"] ["_law_door"] (defScope s__law_try) := ⟨rfl, rfl, rfl, by decide +kernel, rfl, by decide +kernel, by decide +kernel⟩
theorem name_is {P : Program} {w : World} {K : PySem.W.Frag} {mg : Str → Option Value} {base : Heap} {f : Addr} {fd : FuncData} (F : FunD K "_law_name_of" "_law_name_of" (defArgs s__law_name_of) (defBody s__law_name_of) (defScope s__law_name_of) [] [] f fd) (hm : mg "_law_name_of" = some (.ref f)) (hb : Binds K fd ["_law_e"] []) (A : ExAll K mg)
    (mi : mg "isinstance" = none) (mv : mg "ValueError" = none) (mz : mg "zip" = none) : NameOk P w K mg base 1 (nmW mg) := by
  refine name_ok (st := s__law_name_of) F sc__law_name_of hm hb A fun X q x d H Q eN eS eK eM hot hq hx hz hf hD fin => ?_
  obtain ⟨prog, w', K', mg', base', A', N, s0, H0, env, outer, stack, ex, fn, calm, pn, xe⟩ := X
  obtain ⟨scope, locals, globals, cells, qual, func, code, frame, blt⟩ := env
  have eN : N = N6 := eN
  have eS : scope = defScope s__law_name_of := eS
  have eK : K' = K := eK
  have eM : mg' = mg := eM
  subst eN eS eK eM
  exact nameBody (q := q) hot hq rfl rfl rfl rfl (by rfl) (by rfl) (show BlkOk N6 (defScope s__law_name_of) _ _ from ⟨rfl, by decide +kernel, by decide +kernel, by decide +kernel, by decide +kernel⟩) (by rfl) (by rfl) mz (by rfl)
    (pe_isC A hx (y := "InvalidChain") (by decide) hq hz hf (by rfl) (by rfl) (by rfl) mi (by rfl))
    (pe_isC A hx (y := "InvalidStage") (by decide) hq hz hf (by rfl) (by rfl) (by rfl) mi (by rfl))
    (pe_isC A hx (y := "InvalidSignal") (by decide) hq hz hf (by rfl) (by rfl) (by rfl) mi (by rfl))
    (pe_isC A hx (y := "InvalidLevel") (by decide) hq hz hf (by rfl) (by rfl) (by rfl) mi (by rfl))
    (pe_isC A hx (y := "InvalidPair") (by decide) hq hz hf (by rfl) (by rfl) (by rfl) mi (by rfl))
    (pe_isC A hx (y := "InvalidNumber") (by decide) hq hz hf (by rfl) (by rfl) (by rfl) mi (by rfl))
    (pe_isC A hx (y := "InvalidOutputs") (by decide) hq hz hf (by rfl) (by rfl) (by rfl) mi (by rfl))
    (pe_isC A hx (y := "InvalidPlace") (by decide) hq hz hf (by rfl) (by rfl) (by rfl) mi (by rfl))
    (pe_isC A hx (y := "InvalidSeen") (by decide) hq hz hf (by rfl) (by rfl) (by rfl) mi (by rfl))
    (pe_isC A hx (y := "NothingToUndo") (by decide) hq hz hf (by rfl) (by rfl) (by rfl) mi (by rfl))
    (pe_isC A hx (y := "TooMany") (by decide) hq hz hf (by rfl) (by rfl) (by rfl) mi (by rfl))
    (pe_isC A hx (y := "InvalidText") (by decide) hq hz hf (by rfl) (by rfl) (by rfl) mi (by rfl))
    (pe_isV A hx hq hz hf (by rfl) (by rfl) (by rfl) mi (by rfl) mv) hD (hots_j1 x hx) (hots_j2 x hx) fin
theorem try_is {P : Program} {w : World} {K : PySem.W.Frag} {mg : Str → Option Value} {base : Heap} {f : Addr} {fd : FuncData} {k : Nat} (F : FunD K "_law_try" "_law_try" (defArgs s__law_try) (defBody s__law_try) (defScope s__law_try) [] [] f fd) (hm : mg "_law_try" = some (.ref f)) (hb : Binds K fd ["_law_door"] []) (A : ExAll K mg)
    (mc : mg "ChainError" = some (.ref (He.ga K "ChainError"))) (NM : NameOk P w K mg base k (nmW mg)) : TryF P w K mg base k := by
  refine try_f (st := s__law_try) F sc__law_try hm hb A (.inl rfl) fun X cdv q e1 e2 e3 e4 e5 => ?_
  subst e1 e2 e3 e4 e5
  exact try_gives (X := X) (CS := He.ga X.K "ChainError") (nm := nmW X.mg) NM rfl rfl rfl rfl mc
end K23
end VC

set_option Elab.async false
set_option linter.all false
set_option maxRecDepth 100000
set_option maxHeartbeats 4000000
namespace VC
namespace K23
open PySem PySem.Spec PyProof.Rows L2
theorem facts {P : Program} {w : World} {K : PySem.W.Frag} {h : Heap} {mg : Str → Option Value} {f : Addr} (X : K.In h) (G : h.Ns mainGlobals mg) (hfa : mg ("law" : Str) = some (.ref f)) (c : He.SaysD fa fn K) (cx : ex K = true) (pe : pfO pf K = pfV pf ∧ suO su K = suV su) (hPf : ((P.main.file : Str) == fileK) = true) (hPs : (P.main.scope.names.lookup ("super" : Str)).isSome = false) :
    ∃ fd : FuncData, (∀ (s : Shared) (v : Value), BindsTo s fd ⟨[v], []⟩ [("_law_script", v)]) ∧ ∀ base : Heap, K.In base → base.Ns mainGlobals mg → (∀ q ∈ tf, LamX.TabB base mg (He.cT K (q, none)).1 (He.cT K (q, none)).2) → FnOk P w K mg base (L2N.CX P w) 11 f fd ["_law_script"] (SpOf mg (w, K) 1 (sp_lawT tf)) := by
  have nb : Nob mg := ⟨He.free_ok X G (c.fact 39 (f := .free "len") rfl), He.free_ok X G (c.fact 40 (f := .free "min") rfl), He.free_ok X G (c.fact 41 (f := .free "max") rfl), He.free_ok X G (c.fact 42 (f := .free "int") rfl), He.free_ok X G (c.fact 43 (f := .free "isinstance") rfl), He.free_ok X G (c.fact 44 (f := .free "tuple") rfl), He.free_ok X G (c.fact 45 (f := .free "list") rfl), He.free_ok X G (c.fact 46 (f := .free "all") rfl), He.free_ok X G (c.fact 47 (f := .free "sum") rfl), He.free_ok X G (c.fact 48 (f := .free "bool") rfl), He.free_ok X G (c.fact 49 (f := .free "str") rfl), He.free_ok X G (c.fact 50 (f := .free "range") rfl), He.free_ok X G (c.fact 51 (f := .free "zip") rfl), He.free_ok X G (c.fact 52 (f := .free "enumerate") rfl), He.free_ok X G (c.fact 53 (f := .free "sorted") rfl), He.free_ok X G (c.fact 54 (f := .free "set") rfl), He.free_ok X G (c.fact 55 (f := .free "dict") rfl), He.free_ok X G (c.fact 56 (f := .free "abs") rfl)⟩
  obtain ⟨cx, cr⟩ := He.ba cx
  obtain ⟨cx, wx_InvalidText⟩ := He.ba cx
  have ce := cx
  obtain ⟨cp, cn⟩ := He.ba cr
  obtain ⟨cu, cp⟩ := He.ba cp
  obtain ⟨pe, pu⟩ := pe
  have EX : ExAll K mg := ⟨fun x hx => He.glo_ok X G (c.facts (f := .glo x) (List.mem_append_left _ (List.mem_map_of_mem hx))), ce⟩
  have mv := He.free_ok X G (c.fact 57 (f := .free "ValueError") rfl)
  have mc := He.glo_ok X G (c.fact 38 (f := .glo "ChainError") rfl)
  have c_FIGURES := He.str_ok X G (c.fact 59 (f := .str "FIGURES" "0123456789") rfl)
  have c_MOST_KEEPING := He.int_ok X G (c.fact 60 (f := .int "MOST_KEEPING" 2) rfl)
  have c_MOST_STAGES := He.int_ok X G (c.fact 61 (f := .int "MOST_STAGES" 3) rfl)
  have c_MOST_TOP := He.int_ok X G (c.fact 62 (f := .int "MOST_TOP" 5) rfl)
  have c_MOST_WAIT := He.int_ok X G (c.fact 63 (f := .int "MOST_WAIT" 2) rfl)
  obtain ⟨fd_is_from, F_is_from⟩ := c.def_ 0 (d := d_is_from) rfl
  have g_is_from := He.glo_ok X G (c.fact 12 (f := .glo "is_from") rfl)
  obtain ⟨fd_is_stage_of, F_is_stage_of⟩ := c.def_ 1 (d := d_is_stage_of) rfl
  have g_is_stage_of := He.glo_ok X G (c.fact 13 (f := .glo "is_stage_of") rfl)
  obtain ⟨fd_keeping, F_keeping⟩ := c.def_ 2 (d := d_keeping) rfl
  have g_keeping := He.glo_ok X G (c.fact 14 (f := .glo "keeping") rfl)
  obtain ⟨fd_is_chain_of, F_is_chain_of⟩ := c.def_ 3 (d := d_is_chain_of) rfl
  have g_is_chain_of := He.glo_ok X G (c.fact 15 (f := .glo "is_chain_of") rfl)
  obtain ⟨fd_need_chain, F_need_chain⟩ := c.def_ 4 (d := d_need_chain) rfl
  have g_need_chain := He.glo_ok X G (c.fact 16 (f := .glo "need_chain") rfl)
  obtain ⟨fd_stage_text, F_stage_text⟩ := c.def_ 5 (d := d_stage_text) rfl
  have g_stage_text := He.glo_ok X G (c.fact 17 (f := .glo "stage_text") rfl)
  obtain ⟨fd_chain_text, F_chain_text⟩ := c.def_ 6 (d := d_chain_text) rfl
  have g_chain_text := He.glo_ok X G (c.fact 18 (f := .glo "chain_text") rfl)
  obtain ⟨fd_number_in, F_number_in⟩ := c.def_ 7 (d := d_number_in) rfl
  have g_number_in := He.glo_ok X G (c.fact 19 (f := .glo "number_in") rfl)
  obtain ⟨fd_stage_in, F_stage_in⟩ := c.def_ 8 (d := d_stage_in) rfl
  have g_stage_in := He.glo_ok X G (c.fact 20 (f := .glo "stage_in") rfl)
  obtain ⟨fd_chain_in, F_chain_in⟩ := c.def_ 9 (d := d_chain_in) rfl
  have g_chain_in := He.glo_ok X G (c.fact 21 (f := .glo "chain_in") rfl)
  obtain ⟨fd_read_chains, F_read_chains⟩ := c.def_ 10 (d := d_read_chains) rfl
  have g_read_chains := He.glo_ok X G (c.fact 22 (f := .glo "read_chains") rfl)
  obtain ⟨fd__law_deck, F__law_deck⟩ := c.def_ 11 (d := d__law_deck) rfl
  have g__law_deck := He.glo_ok X G (c.fact 23 (f := .glo "_law_deck") rfl)
  obtain ⟨fd__law_pick, F__law_pick⟩ := c.def_ 12 (d := d__law_pick) rfl
  have g__law_pick := He.glo_ok X G (c.fact 24 (f := .glo "_law_pick") rfl)
  obtain ⟨fd__law_one, F__law_one⟩ := c.def_ 13 (d := d__law_one) rfl
  have g__law_one := He.glo_ok X G (c.fact 25 (f := .glo "_law_one") rfl)
  obtain ⟨fd__law_name_of, F__law_name_of⟩ := c.def_ 14 (d := d__law_name_of) rfl
  have g__law_name_of := He.glo_ok X G (c.fact 26 (f := .glo "_law_name_of") rfl)
  obtain ⟨fd__law_try, F__law_try⟩ := c.def_ 15 (d := d__law_try) rfl
  have g__law_try := He.glo_ok X G (c.fact 27 (f := .glo "_law_try") rfl)
  obtain ⟨fd__law_sort, F__law_sort⟩ := c.def_ 16 (d := d__law_sort) rfl
  have g__law_sort := He.glo_ok X G (c.fact 28 (f := .glo "_law_sort") rfl)
  obtain ⟨fd__law_same, F__law_same⟩ := c.def_ 17 (d := d__law_same) rfl
  have g__law_same := He.glo_ok X G (c.fact 29 (f := .glo "_law_same") rfl)
  obtain ⟨fd__law_stage, F__law_stage⟩ := c.def_ 18 (d := d__law_stage) rfl
  have g__law_stage := He.glo_ok X G (c.fact 30 (f := .glo "_law_stage") rfl)
  obtain ⟨fd__law_chain, F__law_chain⟩ := c.def_ 19 (d := d__law_chain) rfl
  have g__law_chain := He.glo_ok X G (c.fact 31 (f := .glo "_law_chain") rfl)
  obtain ⟨fd__law_text, F__law_text⟩ := c.def_ 20 (d := d__law_text) rfl
  have g__law_text := He.glo_ok X G (c.fact 32 (f := .glo "_law_text") rfl)
  obtain ⟨fd__law_stages, F__law_stages⟩ := c.def_ 21 (d := d__law_stages) rfl
  have g__law_stages := He.glo_ok X G (c.fact 33 (f := .glo "_law_stages") rfl)
  obtain ⟨fd__law_read, F__law_read⟩ := c.def_ 22 (d := d__law_read) rfl
  have g__law_read := He.glo_ok X G (c.fact 34 (f := .glo "_law_read") rfl)
  obtain ⟨fd__law_due, F__law_due⟩ := c.def_ 23 (d := d__law_due) rfl
  have g__law_due := He.glo_ok X G (c.fact 35 (f := .glo "_law_due") rfl)
  obtain ⟨fd__law_told, F__law_told⟩ := c.def_ 24 (d := d__law_told) rfl
  have g__law_told := He.glo_ok X G (c.fact 36 (f := .glo "_law_told") rfl)
  obtain ⟨fd_law, F_law⟩ := c.def_ 25 (d := d_law) rfl
  have g_law := He.glo_ok X G (c.fact 37 (f := .glo "law") rfl)
  have xf_InvalidText : XfF K mg "InvalidText" "line" := xfF_of wx_InvalidText (He.glo_ok X G (c.fact 11 (f := .glo "InvalidText") rfl))
  have uc_InvalidText : SupC P K (He.ga K "InvalidText") (supI K u_InvalidText) (fnC K (supI K u_InvalidText)) (fnK K (supI K u_InvalidText)) "__init__" "InvalidText.__init__" "line" (defArgs s_InvalidText_init) (defBody s_InvalidText_init) (defScope s_InvalidText_init) := SupD.supC (q := u_InvalidText) (List.all_eq_true.mp cu _ (List.mem_of_getElem? (i := 0) rfl)) (sup_at pu 0 rfl) hPf
  have es_InvalidText : ExS P K mg "InvalidText" "line" := exS_of (self := "self") (lm := "line") (m := "invalid text") uc_InvalidText ⟨rfl, rfl, rfl, by decide +kernel, by decide +kernel, by decide +kernel, by decide +kernel, by decide +kernel, by decide, by decide, by decide, ⟨_, rfl, rfl⟩⟩ (He.glo_ok X G (c.fact 11 (f := .glo "InvalidText") rfl)) (He.free_ok X G (c.fact 58 (f := .free "super") rfl)) (by rfl) (fun kV doc pm an ct s a u => .of_eq rfl) (fun env => ⟨_, rfl⟩) (fun env => rfl) hPs
  have e := hfa.symm.trans g_law
  cases e
  have bl := FunD.bindsA (ps := ["_law_script"]) F_law fun _ _ _ _ _ _ us hl => match us, hl with | [_], _ => rfl
  refine ⟨fd_law, fun s v => bl s [v] rfl, fun base _ _ hTB => ?_⟩
  have bi_is_from : Binds K fd_is_from ["value", "low", "high"] [] := FunD.bindsN F_is_from fun _ _ _ _ _ _ us hl => match us, hl with | [_, _, _], _ => rfl
  have bi_is_stage_of : Binds K fd_is_stage_of ["top", "value"] [] := FunD.bindsN F_is_stage_of fun _ _ _ _ _ _ us hl => match us, hl with | [_, _], _ => rfl
  have bi_keeping : Binds K fd_keeping ["stages"] [] := FunD.bindsN F_keeping fun _ _ _ _ _ _ us hl => match us, hl with | [_], _ => rfl
  have bi_is_chain_of : Binds K fd_is_chain_of ["value"] [] := FunD.bindsN F_is_chain_of fun _ _ _ _ _ _ us hl => match us, hl with | [_], _ => rfl
  have bi_need_chain : Binds K fd_need_chain ["value"] [] := FunD.bindsN F_need_chain fun _ _ _ _ _ _ us hl => match us, hl with | [_], _ => rfl
  have bi_stage_text : Binds K fd_stage_text ["stage"] [] := FunD.bindsN F_stage_text fun _ _ _ _ _ _ us hl => match us, hl with | [_], _ => rfl
  have bi_chain_text : Binds K fd_chain_text ["chain"] [] := FunD.bindsN F_chain_text fun _ _ _ _ _ _ us hl => match us, hl with | [_], _ => rfl
  have bi_number_in : Binds K fd_number_in ["word"] [] := FunD.bindsN F_number_in fun _ _ _ _ _ _ us hl => match us, hl with | [_], _ => rfl
  have bi_stage_in : Binds K fd_stage_in ["text"] [] := FunD.bindsN F_stage_in fun _ _ _ _ _ _ us hl => match us, hl with | [_], _ => rfl
  have bi_chain_in : Binds K fd_chain_in ["line"] [] := FunD.bindsN F_chain_in fun _ _ _ _ _ _ us hl => match us, hl with | [_], _ => rfl
  have bi_read_chains : Binds K fd_read_chains ["text"] [] := FunD.bindsN F_read_chains fun _ _ _ _ _ _ us hl => match us, hl with | [_], _ => rfl
  have bi__law_deck : Binds K fd__law_deck ["_law_cell", "_law_turn"] [] := FunD.bindsN F__law_deck fun _ _ _ _ _ _ us hl => match us, hl with | [_, _], _ => rfl
  have bi__law_pick : Binds K fd__law_pick ["_law_deck_here", "_law_limit"] [] := FunD.bindsN F__law_pick fun _ _ _ _ _ _ us hl => match us, hl with | [_, _], _ => rfl
  have bi__law_one : Binds K fd__law_one ["_law_deck_here", "_law_some"] [] := FunD.bindsN F__law_one fun _ _ _ _ _ _ us hl => match us, hl with | [_, _], _ => rfl
  have bi__law_name_of : Binds K fd__law_name_of ["_law_e"] [] := FunD.bindsN F__law_name_of fun _ _ _ _ _ _ us hl => match us, hl with | [_], _ => rfl
  have bi__law_try : Binds K fd__law_try ["_law_door"] [] := FunD.bindsN F__law_try fun _ _ _ _ _ _ us hl => match us, hl with | [_], _ => rfl
  have bi__law_sort : Binds K fd__law_sort ["_law_thing"] [] := FunD.bindsN F__law_sort fun _ _ _ _ _ _ us hl => match us, hl with | [_], _ => rfl
  have bi__law_same : Binds K fd__law_same ["_law_told_here", "_law_due_here"] [] := FunD.bindsN F__law_same fun _ _ _ _ _ _ us hl => match us, hl with | [_, _], _ => rfl
  have bi__law_stage : Binds K fd__law_stage ["_law_deck_here", "_law_top", "_law_bare"] [] := FunD.bindsN F__law_stage fun _ _ _ _ _ _ us hl => match us, hl with | [_, _, _], _ => rfl
  have bi__law_chain : Binds K fd__law_chain ["_law_deck_here", "_law_most", "_law_many"] [] := FunD.bindsN F__law_chain fun _ _ _ _ _ _ us hl => match us, hl with | [_, _, _], _ => rfl
  have bi__law_text : Binds K fd__law_text ["_law_c"] [] := FunD.bindsN F__law_text fun _ _ _ _ _ _ us hl => match us, hl with | [_], _ => rfl
  have bi__law_stages : Binds K fd__law_stages ["_law_top"] [] := FunD.bindsN F__law_stages fun _ _ _ _ _ _ us hl => match us, hl with | [_], _ => rfl
  have bi__law_read : Binds K fd__law_read ["_law_line"] [] := FunD.bindsN F__law_read fun _ _ _ _ _ _ us hl => match us, hl with | [_], _ => rfl
  have bi__law_due : Binds K fd__law_due ["_law_text_here"] [] := FunD.bindsN F__law_due fun _ _ _ _ _ _ us hl => match us, hl with | [_], _ => rfl
  have bi__law_told : Binds K fd__law_told ["_law_text_here"] [] := FunD.bindsN F__law_told fun _ _ _ _ _ _ us hl => match us, hl with | [_], _ => rfl
  have bi_law : Binds K fd_law ["_law_script"] [] := FunD.bindsN F_law fun _ _ _ _ _ _ us hl => match us, hl with | [_], _ => rfl
  have NM : NameOk P w K mg base 6 (nmW mg) := (name_is F__law_name_of g__law_name_of bi__law_name_of EX nb.isinstance mv nb.zip).up (by decide)
  have TR : TryF P w K mg base 6 := try_is F__law_try g__law_try bi__law_try EX mc NM
  have O_is_from : FnOk P w K mg base (L2N.CX P w) 1 _ fd_is_from ["value", "low", "high"] (SpOf mg (w, K) 3 sa_is_from) := fn_ok (st := s_is_from) F_is_from sc_is_from rfl (fun cdv A outer s H E B g0 hr => b_is_from nb hr) va_is_from
  have V_is_from : FnV P w K mg base "is_from" 3 1 sa_is_from := FnV.of mo_a_is_from O_is_from g_is_from F_is_from.kp bi_is_from
  have O_is_stage_of : FnOk P w K mg base (L2N.CX P w) 2 _ fd_is_stage_of ["top", "value"] (SpOf mg (w, K) 2 sa_is_stage_of) := fn_ok (st := s_is_stage_of) F_is_stage_of sc_is_stage_of rfl (fun cdv A outer s H E B g0 hr => b_is_stage_of nb c_MOST_TOP c_MOST_WAIT V_is_from (by first | decide | omega) hr) va_is_stage_of
  have V_is_stage_of : FnV P w K mg base "is_stage_of" 2 2 sa_is_stage_of := FnV.of mo_a_is_stage_of O_is_stage_of g_is_stage_of F_is_stage_of.kp bi_is_stage_of
  have O_keeping : FnOk P w K mg base (L2N.CX P w) 1 _ fd_keeping ["stages"] (SpOf mg (w, K) 1 sp_keeping) := fn_ok (st := s_keeping) F_keeping sc_keeping rfl (fun cdv A outer s H E B g0 hr => b_keeping nb hr) vc_keeping
  have V_keeping : FnV P w K mg base "keeping" 1 1 sp_keeping := FnV.of mo_keeping O_keeping g_keeping F_keeping.kp bi_keeping
  have O_is_chain_of : FnOk P w K mg base (L2N.CX P w) 3 _ fd_is_chain_of ["value"] (SpOf mg (w, K) 1 sa_is_chain_of) := fn_ok (st := s_is_chain_of) F_is_chain_of sc_is_chain_of rfl (fun cdv A outer s H E B g0 hr => b_is_chain_of nb c_MOST_KEEPING c_MOST_STAGES c_MOST_TOP V_is_stage_of (by first | decide | omega) V_keeping (by first | decide | omega) V_is_from (by first | decide | omega) hr) va_is_chain_of
  have V_is_chain_of : FnV P w K mg base "is_chain_of" 1 3 sa_is_chain_of := FnV.of mo_a_is_chain_of O_is_chain_of g_is_chain_of F_is_chain_of.kp bi_is_chain_of
  have O_number_in : FnOk P w K mg base (L2N.CX P w) 1 _ fd_number_in ["word"] (SpOf mg (w, K) 1 sp_number_in) := fn_ok (st := s_number_in) F_number_in sc_number_in rfl (fun cdv A outer s H E B g0 hr => b_number_in nb c_FIGURES hr) vc_number_in
  have V_number_in : FnV P w K mg base "number_in" 1 1 sp_number_in := FnV.of mo_number_in O_number_in g_number_in F_number_in.kp bi_number_in
  have O_stage_in : FnOk P w K mg base (L2N.CX P w) 2 _ fd_stage_in ["text"] (SpOf mg (w, K) 1 sp_stage_in) := fn_ok (st := s_stage_in) F_stage_in sc_stage_in rfl (fun cdv A outer s H E B g0 hr => b_stage_in nb V_number_in (by first | decide | omega) hr) vc_stage_in
  have V_stage_in : FnV P w K mg base "stage_in" 1 2 sp_stage_in := FnV.of mo_stage_in O_stage_in g_stage_in F_stage_in.kp bi_stage_in
  have O_chain_in : FnOk P w K mg base (L2N.CX P w) 4 _ fd_chain_in ["line"] (SpOf mg (w, K) 1 sp_chain_in) := fn_ok (st := s_chain_in) F_chain_in sc_chain_in rfl (fun cdv A outer s H E B g0 hr => b_chain_in nb V_is_chain_of (by first | decide | omega) V_number_in (by first | decide | omega) V_stage_in (by first | decide | omega) hr) vc_chain_in
  have V_chain_in : FnV P w K mg base "chain_in" 1 4 sp_chain_in := FnV.of mo_chain_in O_chain_in g_chain_in F_chain_in.kp bi_chain_in
  have OX_read_chains : FnOk P w K mg base (L2N.CX P w) 5 _ fd_read_chains ["text"] (SpX mg (w, K) 1 spx_read_chains) := fn_okX (st := s_read_chains) F_read_chains sc_read_chains rfl (fun cdv A outer s H E B g0 Ex hr hx => bx_read_chains nb V_chain_in (by first | decide | omega) es_InvalidText (by decide) hr hx) vcx_read_chains
  have VX_read_chains : FnX P w K mg base "read_chains" 1 5 spx_read_chains := FnX.of mox_read_chains OX_read_chains g_read_chains F_read_chains.kp bi_read_chains
  have O__law_told : FnOk P w K mg base (L2N.CX P w) 6 _ fd__law_told ["_law_text_here"] (SpOf mg (w, K) 1 sp__law_told) := fn_ok (st := s__law_told) F__law_told sc__law_told rfl (fun cdv A outer s H E B g0 hr => b__law_told nb xf_InvalidText VX_read_chains (by decide) hr) vc__law_told
  have V__law_told : FnV P w K mg base "_law_told" 1 6 sp__law_told := FnV.of mo__law_told O__law_told g__law_told F__law_told.kp bi__law_told
  have O__law_sort : FnOk P w K mg base (L2N.CX P w) 1 _ fd__law_sort ["_law_thing"] (SpOf mg (w, K) 1 sp__law_sort) := fn_ok (st := s__law_sort) F__law_sort sc__law_sort rfl (fun cdv A outer s H E B g0 hr => b__law_sort nb hr) vc__law_sort
  have V__law_sort : FnV P w K mg base "_law_sort" 1 1 sp__law_sort := FnV.of mo__law_sort O__law_sort g__law_sort F__law_sort.kp bi__law_sort
  have O__law_same : ∀ n : Nat, n ≤ 8 → FnOk P w K mg base (L2N.CX P w) (2 + n) (He.fAd K d__law_same.at_) fd__law_same ["_law_told_here", "_law_due_here"] (SpOf mg (w, K) 2 (sp__law_same n)) := by
    intro n
    induction n with
    | zero =>
      intro hn
      have V : FnV P w K mg base "_law_same" 2 1 (fun _ _ _ _ => False) := FnV.of (fun _ _ _ _ _ _ h => h) ⟨fun vs H Q E h => by obtain ⟨_, g, S, ds, R, _, _, h, _⟩ := h; exact h.elim, fun A outer s H args us vs Q E _ _ _ _ h => by obtain ⟨_, g, S, ds, R, _, _, h, _⟩ := h; exact h.elim⟩ g__law_same F__law_same.kp bi__law_same
      exact fn_ok (st := s__law_same) F__law_same sc__law_same rfl (fun cdv A outer s H E B g0 hr => b__law_same nb V__law_sort (by first | decide | omega) V (by first | exact Nat.le_refl _ | omega) hr) (vc__law_same 0 (by omega) _ fun d S R h => by obtain ⟨m, h, _⟩ := h; cases h)
    | succ n ih =>
      intro hn
      have V : FnV P w K mg base "_law_same" 2 (2 + n) (sp__law_same n) := FnV.of (mo__law_same n) (ih (by omega)) g__law_same F__law_same.kp bi__law_same
      exact fn_ok (k := 2 + n) (st := s__law_same) F__law_same sc__law_same rfl (fun cdv A outer s H E B g0 hr => b__law_same nb V__law_sort (by first | decide | omega) V (by first | exact Nat.le_refl _ | omega) hr) (vc__law_same (n + 1) (by omega) _ fun d S R h q => by obtain ⟨m, h, k⟩ := h; cases h; exact ⟨d, rfl, k, q⟩)
  have V__law_same : FnV P w K mg base "_law_same" 2 10 (sp__law_same 8) := FnV.of (mo__law_same 8) (O__law_same 8 (Nat.le_refl _)) g__law_same F__law_same.kp bi__law_same
  have O__law_stages : FnOk P w K mg base (L2N.CX P w) 1 _ fd__law_stages ["_law_top"] (SpOf mg (w, K) 1 sp__law_stages) := fn_ok (st := s__law_stages) F__law_stages sc__law_stages rfl (fun cdv A outer s H E B g0 hr => b__law_stages nb hr) vc__law_stages
  have V__law_stages : FnV P w K mg base "_law_stages" 1 1 sp__law_stages := FnV.of mo__law_stages O__law_stages g__law_stages F__law_stages.kp bi__law_stages
  have O__law_read : FnOk P w K mg base (L2N.CX P w) 2 _ fd__law_read ["_law_line"] (SpOf mg (w, K) 1 sp__law_read) := fn_ok (st := s__law_read) F__law_read sc__law_read rfl (fun cdv A outer s H E B g0 hr => b__law_read nb V__law_stages (by first | decide | omega) hr) vc__law_read
  have V__law_read : FnV P w K mg base "_law_read" 1 2 sp__law_read := FnV.of mo__law_read O__law_read g__law_read F__law_read.kp bi__law_read
  have O__law_due : FnOk P w K mg base (L2N.CX P w) 3 _ fd__law_due ["_law_text_here"] (SpOf mg (w, K) 1 sp__law_due) := fn_ok (st := s__law_due) F__law_due sc__law_due rfl (fun cdv A outer s H E B g0 hr => b__law_due nb V__law_read (by first | decide | omega) hr) vc__law_due
  have V__law_due : FnV P w K mg base "_law_due" 1 3 sp__law_due := FnV.of mo__law_due O__law_due g__law_due F__law_due.kp bi__law_due
  have O__law_pick : FnOk P w K mg base (L2N.CX P w) 1 _ fd__law_pick ["_law_deck_here", "_law_limit"] (SpOf mg (w, K) 2 sp__law_pick) := fn_ok (st := s__law_pick) F__law_pick sc__law_pick rfl (fun cdv A outer s H E B g0 hr => b__law_pick nb hr) vc__law_pick
  have V__law_pick : FnV P w K mg base "_law_pick" 2 1 sp__law_pick := FnV.of mo__law_pick O__law_pick g__law_pick F__law_pick.kp bi__law_pick
  have O__law_one : FnOk P w K mg base (L2N.CX P w) 2 _ fd__law_one ["_law_deck_here", "_law_some"] (SpOf mg (w, K) 2 sp__law_one) := fn_ok (st := s__law_one) F__law_one sc__law_one rfl (fun cdv A outer s H E B g0 hr => b__law_one nb V__law_pick (by first | decide | omega) hr) vc__law_one
  have V__law_one : FnV P w K mg base "_law_one" 2 2 sp__law_one := FnV.of (fun ds S R R' E i ⟨r, xs, n, a, b, c, d, e, q⟩ => ⟨r, xs, n, a, b, c, d, e, fun x S' h1 h2 h3 => i _ _ (q x S' h1 h2 h3)⟩) O__law_one g__law_one F__law_one.kp bi__law_one
  have O_stage_text : FnOk P w K mg base (L2N.CX P w) 1 _ fd_stage_text ["stage"] (SpOf mg (w, K) 1 sp_stage_text) := fn_ok (st := s_stage_text) F_stage_text sc_stage_text rfl (fun cdv A outer s H E B g0 hr => b_stage_text nb hr) vc_stage_text
  have V_stage_text : FnV P w K mg base "stage_text" 1 1 sp_stage_text := FnV.of mo_stage_text O_stage_text g_stage_text F_stage_text.kp bi_stage_text
  have O_need_chain : FnOk P w K mg base (L2N.CX P w) 4 _ fd_need_chain ["value"] (SpOf mg (w, K) 1 sp_need_chain) := fn_ok (st := s_need_chain) F_need_chain sc_need_chain rfl (fun cdv A outer s H E B g0 hr => b_need_chain nb V_is_chain_of (by first | decide | omega) hr) vc23_need_chain
  have V_need_chain : FnV P w K mg base "need_chain" 1 4 sp_need_chain := FnV.of mo_need_chain O_need_chain g_need_chain F_need_chain.kp bi_need_chain
  have O_chain_text : FnOk P w K mg base (L2N.CX P w) 5 _ fd_chain_text ["chain"] (SpOf mg (w, K) 1 sp_chain_text) := fn_ok (st := s_chain_text) F_chain_text sc_chain_text rfl (fun cdv A outer s H E B g0 hr => b_chain_text nb V_stage_text (by first | decide | omega) V_need_chain (by first | decide | omega) hr) vc_chain_text
  have V_chain_text : FnV P w K mg base "chain_text" 1 5 sp_chain_text := FnV.of mo_chain_text O_chain_text g_chain_text F_chain_text.kp bi_chain_text
  have O__law_text : FnOk P w K mg base (L2N.CX P w) 1 _ fd__law_text ["_law_c"] (SpOf mg (w, K) 1 sp__law_text) := fn_ok (st := s__law_text) F__law_text sc__law_text rfl (fun cdv A outer s H E B g0 hr => b__law_text nb hr) vc__law_text
  have V__law_text : FnV P w K mg base "_law_text" 1 1 sp__law_text := FnV.of mo__law_text O__law_text g__law_text F__law_text.kp bi__law_text
  have O__law_stage : FnOk P w K mg base (L2N.CX P w) 2 _ fd__law_stage ["_law_deck_here", "_law_top", "_law_bare"] (SpOf mg (w, K) 3 sp__law_stage) := fn_ok (st := s__law_stage) F__law_stage sc__law_stage rfl (fun cdv A outer s H E B g0 hr => b__law_stage nb V__law_pick (by first | decide | omega) hr) vc__law_stage
  have V__law_stage : FnV P w K mg base "_law_stage" 3 2 sp__law_stage := FnV.of mo__law_stage O__law_stage g__law_stage F__law_stage.kp bi__law_stage
  have O__law_chain : FnOk P w K mg base (L2N.CX P w) 3 _ fd__law_chain ["_law_deck_here", "_law_most", "_law_many"] (SpOf mg (w, K) 3 sp__law_chain) := fn_ok (st := s__law_chain) F__law_chain sc__law_chain rfl (fun cdv A outer s H E B g0 hr => b__law_chain nb V__law_pick (by first | decide | omega) V__law_stage (by first | decide | omega) hr) vc__law_chain
  have V__law_chain : FnV P w K mg base "_law_chain" 3 3 sp__law_chain := FnV.of mo__law_chain O__law_chain g__law_chain F__law_chain.kp bi__law_chain
  have O__law_deck : FnOk P w K mg base (L2N.CX P w) 1 _ fd__law_deck ["_law_cell", "_law_turn"] (SpOf mg (w, K) 2 sp__law_deck) := fn_ok (st := s__law_deck) F__law_deck sc__law_deck rfl (fun cdv A outer s H E B g0 hr => b__law_deck nb hr) vc__law_deck
  have V__law_deck : FnV P w K mg base "_law_deck" 2 1 sp__law_deck := FnV.of mo__law_deck O__law_deck g__law_deck F__law_deck.kp bi__law_deck
  have O_law : FnOk P w K mg base (L2N.CX P w) 11 _ fd_law ["_law_script"] (SpOf mg (w, K) 1 (sp_lawT tf)) := fn_okT (st := s_law) F_law sc_law rfl (fun cdv hcd A outer s H E B g0 hr => b_law (k0 := 5) TR (by decide) (hTB "law" (by decide)) nb V__law_told (by first | decide | omega) V__law_same (by first | decide | omega) V__law_due (by first | decide | omega) V__law_pick (by first | decide | omega) V__law_one (by first | decide | omega) V_chain_text (by first | decide | omega) V__law_text (by first | decide | omega) V__law_chain (by first | decide | omega) V__law_deck (by first | decide | omega) VX_read_chains (by decide) hr hcd) vc_law_k23
  exact O_law
theorem exN {K : PySem.W.Frag} (h : ex K = true) : (tabA K tf).Nodup := by
  obtain ⟨_, h⟩ := He.ba h
  obtain ⟨_, h⟩ := He.ba h
  exact of_decide_eq_true h
end K23
end VC
open PySem PySem.W PySem.Calls PyProof.Rows
theorem PySem.Challenge.cw_slewchains_k23_chains_written_and_read_holds : PySem.Challenge.rw_slewchains_k23_chains_written_and_read.Holds := by
  w_on; o_law
  refine HandSHeadRun.head_any (r := OpenLaw.row PySem.Challenge.rw_slewchains_k23_chains_written_and_read) (q := view (OpenLaw.row PySem.Challenge.rw_slewchains_k23_chains_written_and_read).prog [48]) (H := VC.K23.hk) (ob := VC.K23.ob) (M := 20000) (loose := VC.K23.loose) (d := HandSHeadRun.topDef (OpenLaw.row PySem.Challenge.rw_slewchains_k23_chains_written_and_read).prog 48) (kwd := []) VC.K23.ob_eq
    (by kernel_rfl) (fun s => by kernel_rfl) VC.K23.run (by kernel_rfl) (by kernel_rfl) (by kernel_rfl) (by rfl) (by first | assumption | decide +kernel) (by decide +kernel) ⟨rfl, rfl, rfl, rfl, rfl, by decide +kernel⟩ ?hw ?hc
  case hw => w_witness2
  case hc =>
    refine VC.walk_o (PF := fun K => VC.pfO VC.K23.pf K = VC.pfV VC.K23.pf ∧ VC.suO VC.K23.su K = VC.suV VC.K23.su) (exB := VC.K23.ex) (l := PySem.Challenge.rw_slewchains_k23_chains_written_and_read) (k := 11) (x := "_law_script") (fa := VC.K23.fa) (fn := VC.K23.fn) (tf := VC.K23.tf) rfl (by kernel_rfl) ⟨rfl, by decide, by decide⟩ (fun w h Y => Y) (fun K hK => VC.K23.exN hK) (fun w mg fa h K KX G hmg0 c cx pe => ?_)
    have hmg : mg ("law" : PySem.Str) = some (.ref fa) := by
      have e : (HandSHeadRun.topDef (OpenLaw.row PySem.Challenge.rw_slewchains_k23_chains_written_and_read).prog 48).name = ("law" : PySem.Str) := by kernel_rfl
      rw [← e]
      exact hmg0
    exact VC.K23.facts (P := (PySem.Challenge.rw_slewchains_k23_chains_written_and_read).prog) (w := w) KX G hmg c cx pe (by kernel_rfl) (by kernel_rfl)
