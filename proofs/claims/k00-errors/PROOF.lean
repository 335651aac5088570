import PyProof.Rows.All
import Wide.All
import OpenK.AllK
import Wide.FinOn
import HandS.HeadHook2
import HandS.HotCalls
import HandS.Words
import KE.KExcIs
import KE.KTryMore
import PySem.Challenge.RW_evenpatch_k00_errors
import KE.KStateDown
import HandS.Head0
import HandS.Head1
import HandS.Head2
import HandS.Head3
import KE.KIsAll
import HandS.ForMost
import HandS.Defaults
import HandS.Exc
import HandS.ExcInit
import HandS.ExcOwn
import HandS.ExcCtx
import HandS.ExcIs
import HandS.ExcValue
import HandS.ClsMeth
import PyProof.ReprRoads
import PyProof.RowDictHeap
import HandS.Comp
import HandS.Hot
import HandS.HeadWalk
import PyProof.ReprLen
import HandS.SetBool
import HandS.IsInst
import HandS.OwnEq
import HandS.Gcd
import HandS.Iter
import HandS.Ends
import HandS.HeadEnd
set_option Elab.async false
set_option linter.all false
set_option maxRecDepth 100000
-- part KT
set_option maxHeartbeats 4000000
/-! T: the text by places, the error classes by spots. Printed by gen_kt.py. -/
namespace EPL
open PySem PySem.Spec PyProof.Rows L2
abbrev PR : Program := PySem.Challenge.pw_evenpatch_k00_errors
def top (i : Nat) : Stmt := PR.main.body.getD i (.Pass ⟨0, 0, 0, 0⟩)
/-- name, place in the text, attributes of the class of each spot -/
def eT0 : List (Str × Nat × List Str) := [("InvalidNumber", 4, ["given"]), ("InvalidLots", 5, ["given"]), ("InvalidLot", 6, ["given"]), ("InvalidPayoff", 7, ["given"]), ("InvalidBlend", 8, ["given"]), ("InvalidNames", 9, ["given"]), ("InvalidStore", 10, ["given"]), ("InvalidValues", 11, ["given"]), ("InvalidName", 12, ["given"])]
def eT1 : List (Str × Nat × List Str) := [("InvalidParty", 13, ["given"]), ("InvalidSide", 14, ["given"]), ("InvalidText", 15, ["given"]), ("InvalidSystem", 16, ["given"]), ("InvalidUnit", 17, ["given"]), ("InvalidBody", 18, ["given"]), ("InvalidSteps", 19, ["given"]), ("InvalidAnswer", 20, ["given"]), ("InvalidPart", 21, ["given"])]
def eT2 : List (Str × Nat × List Str) := [("InvalidView", 22, ["given"]), ("InvalidFamilies", 23, ["given"]), ("InvalidRow", 24, ["given"]), ("InvalidPlan", 25, ["given"]), ("InvalidOutcomes", 26, ["given"]), ("InvalidPath", 27, ["given"]), ("InvalidCode", 28, ["given"]), ("InvalidLines", 29, ["given"]), ("InvalidEdition", 30, ["given"])]
def eT3 : List (Str × Nat × List Str) := [("InvalidPromised", 31, ["given"]), ("InvalidPrice", 32, ["given"]), ("InvalidPurse", 33, ["given"]), ("InvalidSession", 34, ["given"]), ("InvalidRecord", 35, ["given"]), ("Outside", 39, ["payoff"]), ("Apart", 40, ["payoff"]), ("TooMany", 41, ["count"]), ("NoThing", 47, ["name"])]
def eT4 : List (Str × Nat × List Str) := [("NoSystem", 37, ["line", "column"]), ("TooGreat", 43, ["unit", "store"]), ("NotFair", 38, ["reason", "unit", "word"]), ("TooDear", 45, ["side", "store", "harm"]), ("TooRich", 42, ["unit", "store", "side", "count"]), ("NotLet", 44, ["side", "store", "plan", "payoff", "answer"]), ("ByZero", 36, []), ("NotAsked", 46, []), ("NothingToUndo", 48, [])]
def eT : List (Str × Nat × List Str) := eT0 ++ (eT1 ++ (eT2 ++ (eT3 ++ (eT4))))
def eInit (p : Str × Nat × List Str) : He.DefD := let s := inClass (top p.2.1) 0
  ⟨(p.1, some "__init__"), "__init__", p.1 ++ ".__init__", defArgs s, defBody s, defScope s, [], []⟩
def dOf (x : Str) (i : Nat) : He.DefD := ⟨(x, none), x, x, defArgs (top i), defBody (top i), defScope (top i), [], []⟩
def dfT : List (Str × Nat) := [("_law_cell", 71), ("_law_box", 72), ("_law_take", 73), ("_law_by_place", 74), ("_law_by_name", 75), ("_law_several", 76), ("_law_sorts", 77), ("_law_kept", 78), ("_law_is", 79), ("_law_thing", 80), ("_law_all_right", 81), ("_law_raised", 82), ("_law_caught", 83), ("law", 84)]
def fnInit : List He.DefD := eT.map eInit
def fnLaw : List He.DefD := dfT.map fun p => dOf p.1 p.2
/-! ### the facts of a class -/
/-- at C stands a class under the one at Pa -/
def rowB (K : PySem.W.Frag) (Pa C : Addr) : Bool := match K.lookup C with
  | some ⟨.type t, _, .cls cd, sl⟩ => decide (t = "type") && (cd.hasDict && (!cd.hasDel && (decide (cd.mro = .ref C :: .ref Pa :: PySem.PX.veTail) && (match sl.toList with
    | [_, _, _, _, some (.builtin n), _] => decide (n = "ValueError.__new__")
    | _ => false))))
  | _ => false
end EPL
-- part KP
set_option maxHeartbeats 4000000
/-! P: what the head is asked, by words. -/
namespace EPL
open PySem PySem.Spec PyProof.Rows L2
/-- none of these names stands in the namespace at N -/
def nsFree (K : PySem.W.Frag) (N : Addr) (bad : List Str) : Bool := match K.lookup N with
  | some ⟨_, _, .dict es _, _⟩ => es.toList.all fun e => match e.key with
    | .str x _ => !(bad.contains x)
    | _ => false
  | _ => false
/-- at C stands a class under the one at Pa, none of the names bad is its own -/
def rowQ (K : PySem.W.Frag) (bad : List Str) (Pa C : Addr) : Bool := match K.lookup C with
  | some ⟨.type t, _, .cls cd, sl⟩ => decide (t = "type") && (cd.hasDict && (!cd.hasDel && (decide (cd.mro = .ref C :: .ref Pa :: PySem.PX.veTail) && ((match sl.toList with
    | [_, _, _, _, some (.builtin n), _] => decide (n = "ValueError.__new__")
    | _ => false) && nsFree K cd.ns bad))))
  | _ => false
/-- at Pa stands a class under ValueError -/
def paQ (K : PySem.W.Frag) (bad : List Str) (Pa : Addr) : Bool := match K.lookup Pa with
  | some ⟨.type t, _, .cls cd, _⟩ => decide (t = "type") && (decide (cd.mro = .ref Pa :: PySem.PX.veTail) && nsFree K cd.ns bad)
  | _ => false
def eAt (i : Nat) : Str × Nat × List Str := eT.getD i ("", 0, [])
def nmE (i : Nat) : Str := (eAt i).1
def fsE (i : Nat) : List Str := (eAt i).2.2
def iniS (i : Nat) : Stmt := inClass (top (eAt i).2.1) 0
/-- names that no error class holds -/
def badA : List Str := ["__setattr__", "__getattribute__", "__getattr__", "__class__", "given", "payoff", "count", "name", "line"]
def badB : List Str := ["column", "unit", "store", "reason", "word", "side", "harm", "plan", "answer"]
def badN : List Str := badA ++ badB
abbrev ad (K : PySem.W.Frag) (i : Nat) : Addr := He.ga K (nmE i)
abbrev fiA (K : PySem.W.Frag) (i : Nat) : Addr := He.fAd K (nmE i, some "__init__")
abbrev aPa (K : PySem.W.Frag) : Addr := He.ga K "PactError"
end EPL
-- part KH0
set_option maxHeartbeats 4000000
/-! H0: a hook over few objects. -/
noncomputable section
namespace EPL
open PySem PySem.Spec PyProof.Rows L2 HandSHeadRun
/-! ### the objects that the facts ask for -/
def refsN (o : Obj) : List Addr := match o.data with
  | .dict es _ => es.toList.flatMap fun e => He.refV e.val
  | .func fd => He.refV fd.code ++ He.refV fd.defaults
  | .cls cd => [cd.ns]
  | _ => []
def growN (g : Addr → Option Obj) (as : List Addr) : List Addr := as.flatMap fun a => match g a with
  | some o => refsN o
  | none => []
def fcL {α : Type} : List Addr → (List Addr → α) → α
  | [], k => k []
  | a :: r, k => frNat a fun a => fcL r fun r => k (a :: r)
theorem fcL_eq {α : Type} : ∀ (l : List Addr) (k : List Addr → α), fcL l k = k l
  | [], _ => rfl
  | a :: r, k => by
    show frNat a (fun a => fcL r fun r => k (a :: r)) = _
    rw [frNat_eq, fcL_eq r]
def fcO {α : Type} (o : Obj) (k : Obj → α) : α := match o with
  | ⟨c, d, dt, sl⟩ => k ⟨c, d, dt, sl⟩
theorem fcO_eq {α : Type} (o : Obj) (k : Obj → α) : fcO o k = k o := by
  cases o <;> rfl
def fcK {α : Type} (g : Addr → Option Obj) : List Addr → (PySem.W.Frag → α) → α
  | [], k => k []
  | a :: r, k => match g a with
    | some o => fcO o fun o => fcK g r fun K => k ((a, o) :: K)
    | none => fcK g r k
theorem fcK_eq {α : Type} (g : Addr → Option Obj) : ∀ (l : List Addr) (k : PySem.W.Frag → α), fcK g l k = k (He.frG g l)
  | [], _ => rfl
  | a :: r, k => by
    cases e : g a with
    | none =>
      have h1 : fcK g (a :: r) k = fcK g r k := by
        show (match g a with | some o => fcO o fun o => fcK g r fun K => k ((a, o) :: K) | none => fcK g r k) = _
        rw [e]
      have h2 : He.frG g (a :: r) = He.frG g r := by
        unfold He.frG
        rw [List.filterMap_cons, e] <;> rfl
      rw [h1, h2, fcK_eq g r]
    | some o =>
      have h1 : fcK g (a :: r) k = fcO o fun o => fcK g r fun K => k ((a, o) :: K) := by
        show (match g a with | some o => fcO o fun o => fcK g r fun K => k ((a, o) :: K) | none => fcK g r k) = _
        rw [e]
      have h2 : He.frG g (a :: r) = (a, o) :: He.frG g r := by
        unfold He.frG
        rw [List.filterMap_cons, e] <;> rfl
      rw [h1, h2, fcO_eq, fcK_eq g r]
def asN (g : Addr → Option Obj) : List Addr := fcL (growN g [mainGlobals]) fun a1 => fcL (growN g a1) fun a2 => fcL (growN g a2) fun a3 => fcL (growN g a3) fun a4 =>
  a1 ++ (mainGlobals :: cStatics :: sysModules :: (a2 ++ (a3 ++ a4)))
/-- f of the part of the heap that g tells -/
def obsN {α : Type} (f : PySem.W.Frag → α) (g : Addr → Option Obj) : α := fcL (asN g) fun as => fcK g as f
theorem obsN_eq {α : Type} (f : PySem.W.Frag → α) (g : Addr → Option Obj) : obsN f g = f (He.frG g (asN g)) := by
  unfold obsN
  rw [fcL_eq, fcK_eq]
def hookN {α : Type} (f : PySem.W.Frag → α) (v : α) : PySem.W.Hook where
  α := α
  obs := fun s => obsN f s.heap.get?
  val := fun _ => v
  says := fun _ h => ∃ K : PySem.W.Frag, K.In h ∧ f K = v
  of := fun _ _ e => ⟨_, He.frG_in, (obsN_eq f _).symm.trans e⟩
  keeps := fun _ _ _ ⟨K, hK, c⟩ k => ⟨K, PySem.W.Frag.In.keeps hK k, c⟩
theorem obN_eq {α : Type} (f : PySem.W.Frag → α) (v : α) (s : PySem.W.SharedT) : (obsN f (getT s) : (hookN f v).α) = (hookN f v).obs s.abs := by
  have e : getT s = s.abs.heap.get? := funext (getT_eq s)
  show obsN f (getT s) = obsN f s.abs.heap.get?
  rw [e]
end EPL
end
-- part KH1
set_option maxHeartbeats 4000000
/-! H1: the facts that the head is asked for. Printed by gen_kh1.py. -/
noncomputable section
namespace EPL
open PySem PySem.Spec PyProof.Rows L2 HandSHeadRun
def lo0 : List Str := ["_wall", "PactError", "InvalidNumber", "InvalidLots", "InvalidLot", "InvalidPayoff", "InvalidBlend", "InvalidNames", "InvalidStore", "InvalidValues", "InvalidName", "InvalidParty"]
def lo1 : List Str := ["InvalidSide", "InvalidText", "InvalidSystem", "InvalidUnit", "InvalidBody", "InvalidSteps", "InvalidAnswer", "InvalidPart", "InvalidView", "InvalidFamilies", "InvalidRow", "InvalidPlan"]
def lo2 : List Str := ["InvalidOutcomes", "InvalidPath", "InvalidCode", "InvalidLines", "InvalidEdition", "InvalidPromised", "InvalidPrice", "InvalidPurse", "InvalidSession", "InvalidRecord", "ByZero", "NoSystem"]
def lo3 : List Str := ["NotFair", "Outside", "Apart", "TooMany", "TooRich", "TooGreat", "NotLet", "TooDear", "NotAsked", "NoThing", "NothingToUndo", "is_list"]
def lo4 : List Str := ["is_integer", "product_of", "parts_of_number", "Ratio", "is_number", "LETTERS", "MOST_LETTERS", "WORDS", "MORE_WORDS", "MOST_NAMES", "LEAST_SIZE", "MOST_SIZE"]
def lo5 : List Str := ["MOST_STORES", "is_word", "is_name", "are_names", "Space", "_law_cell", "_law_box", "_law_take", "_law_by_place", "_law_by_name", "_law_several", "_law_sorts"]
def lo6 : List Str := ["_law_kept", "_law_is", "_law_thing", "_law_all_right", "_law_raised", "_law_caught"]
def loose : List Str := lo0 ++ lo1 ++ lo2 ++ lo3 ++ lo4 ++ lo5 ++ lo6
def fa0 : List He.Fa := [.free "isinstance", .free "ValueError", .free "len", .free "range", .free "int", .free "sum", .free "abs", .free "repr", .free "dict", .free "max"]
def fa1 : List He.Fa := [.free "min", .free "all", .free "tuple", .free "list", .free "str", .free "bool", .glo "_law_cell", .glo "_law_box", .glo "_law_take", .glo "_law_by_place"]
def fa2 : List He.Fa := [.glo "_law_by_name", .glo "_law_several", .glo "_law_sorts", .glo "_law_kept", .glo "_law_is", .glo "_law_thing", .glo "_law_all_right", .glo "_law_raised", .glo "_law_caught", .glo "law"]
def fa3 : List He.Fa := [.glo "is_list", .glo "is_integer", .glo "product_of", .glo "parts_of_number", .glo "is_number", .glo "is_word", .glo "is_name", .glo "are_names", .glo "Ratio", .glo "Space"]
def fa4 : List He.Fa := [.glo "PactError", .int "MOST_LETTERS" 8, .int "MOST_NAMES" 2, .int "LEAST_SIZE" 2, .int "MOST_SIZE" 6, .int "MOST_STORES" 6, .str "LETTERS" "abcdefghijklmnopqrstuvwxyz", .cls "Ratio", .mkr "Ratio", .noat "Ratio" "top"]
def fa5 : List He.Fa := [.noat "Ratio" "bottom", .meth "Ratio" "__eq__", .cls "Space", .mkr "Space", .noat "Space" "names", .noat "Space" "never", .meth "Space" "__eq__", .glo "WORDS", .glo "MORE_WORDS"]
def faA : List He.Fa := fa0 ++ fa1 ++ fa2 ++ fa3 ++ fa4 ++ fa5
def faB : List He.Fa := eT.map fun p => .glo p.1
def fnHelp : List He.DefD := [dOf "is_list" 50, dOf "is_integer" 51, dOf "product_of" 52, dOf "parts_of_number" 54, dOf "is_number" 56, dOf "is_word" 66, dOf "is_name" 67, dOf "are_names" 68]
def fnMeth : List He.DefD := [⟨("Ratio", some "__init__"), "__init__", "Ratio.__init__", defArgs (inClass (top 55) 0), defBody (inClass (top 55) 0), defScope (inClass (top 55) 0), [.int 1], []⟩, ⟨("Ratio", some "__eq__"), "__eq__", "Ratio.__eq__", defArgs (inClass (top 55) 8), defBody (inClass (top 55) 8), defScope (inClass (top 55) 8), [], []⟩, ⟨("Space", some "__init__"), "__init__", "Space.__init__", defArgs (inClass (top 69) 0), defBody (inClass (top 69) 0), defScope (inClass (top 69) 0), [], []⟩, ⟨("Space", some "__eq__"), "__eq__", "Space.__eq__", defArgs (inClass (top 69) 1), defBody (inClass (top 69) 1), defScope (inClass (top 69) 1), [], []⟩]
def fnRest : List He.DefD := fnLaw ++ (fnHelp ++ fnMeth)
/-- no two are one -/
def ndB : List Addr → Bool
  | [] => true
  | a :: r => r.all (fun b => !(Nat.beq a b)) && ndB r
def eqV? (a b : Option Value) : Bool := decide (a = b)
/-- the errors' facts -/
def exA (K : PySem.W.Frag) : Bool := paQ K badN (aPa K) && ((eT.all fun p => rowQ K badN (aPa K) (He.ga K p.1)) && ndB (aPa K :: eT.map fun p => He.ga K p.1))
def exB (K : PySem.W.Frag) : Bool := (eT.all fun p => He.eqO (PySem.W.findIn K (.ref (He.ga K p.1)) "__init__") (some (some (.ref (He.fAd K (p.1, some "__init__"))))) && eqV? (PySem.W.typeIn K (.ref (He.fAd K (p.1, some "__init__")))) (some (.type "function"))) &&
  (He.eqO (PySem.W.specialIn K (.ref (aPa K)) "__getattribute__") (some (some (.builtin "type.__getattribute__"))) && (PySem.W.readsIn K (aPa K) (.type "type") && (match PySem.W.findCls K (.ref (aPa K)) (.type "type") "__init__" with
    | some (.val (.builtin n)) => decide (n = "ValueError.__init__")
    | _ => false)))
def words1 : List Str := ["and", "by", "call", "choose", "draw", "else", "if", "name", "net", "not", "or"]
def words2 : List Str := ["parties", "set", "spin", "unit", "while", "yes"]
def clB (K : PySem.W.Frag) (x : Str) : Bool := He.eqO (PySem.W.findIn K (.ref (He.ga K x)) "__class__") (some (some (.builtin "object.__class__"))) && decide (PySem.W.mroIn K (He.ga K x) (.type "object") = some true)
/-- the rest -/
def exC (K : PySem.W.Frag) : Bool := (match K.lookup sysModules with
  | some o => !(decide (o.cls = .type "list"))
  | none => false) && (He.tupB K "WORDS" (words1.map He.Dv.str) && (He.tupB K "MORE_WORDS" (words2.map He.Dv.str) && (He.eqO (PySem.W.nsIn K mainGlobals "gcd") (some (some (.builtin "math.gcd"))) &&
  (decide (PySem.W.kitOne K (.ref (He.ga K "Ratio")) (.type "int") = some false) && decide (PySem.W.kitOne K (.ref (He.ga K "Ratio")) (.ref (He.ga K "Ratio")) = some true) && (decide (PySem.W.kitOne K (.ref (He.ga K "Space")) (.ref (He.ga K "Space")) = some true) && (clB K "Ratio" && clB K "Space"))))))
abbrev AlE : Type := (Bool × Bool) × (Bool × (Bool × (Bool × (List He.FnW × (Bool × List He.FnW)))))
def fE (K : PySem.W.Frag) : AlE := ((exA K, exB K), (exC K, ((faA ++ faB).all fun f => f.ok K, (fnInit.all fun d => d.ok K, (fnInit.map fun d => He.fnW K d.at_, (fnRest.all fun d => d.ok K, fnRest.map fun d => He.fnW K d.at_))))))
def vE : AlE := ((true, true), (true, (true, (true, (fnInit.map He.DefD.val, (true, fnRest.map He.DefD.val))))))
abbrev hkE : PySem.W.Hook := hookN fE vE
def obE (s : PySem.W.SharedT) : hkE.α := obsN fE (getT s)
theorem obE_eq (s : PySem.W.SharedT) : obE s = hkE.obs s.abs := obN_eq fE vE s
abbrev RW : PySem.W.OpenRow := PySem.W.OpenLaw.row PySem.Challenge.rw_evenpatch_k00_errors
abbrev qv : Program := PySem.W.view RW.prog [0, 84]
abbrev whole (w : World) := wholeF (fun p => stepQ (denQ tabQ) p w) fenceQ 20000 RW.prog
end EPL
end
-- part KHR1
set_option maxHeartbeats 0
namespace EPL
open PySem PySem.Spec PyProof.Rows L2 HandSHeadRun
theorem run1 (w : World) : (whole w).map (fun x => (looksF RW.prog x.1.heap x.2.abs)) = some (true) := by
  kernel_rfl
end EPL
-- part KHR2
set_option maxHeartbeats 0
namespace EPL
open PySem PySem.Spec PyProof.Rows L2 HandSHeadRun
theorem run2 (w : World) : (whole w).map (fun x => ((HandSHeadRun.seenQ qv loose (importedModules RW.prog.main.body) (fun s => PySem.W.xlAt qv [] s && PySem.W.recOk RW.toRowW.records s) x.2.abs))) = some (PySem.W.openGood qv loose) := by
  kernel_rfl
end EPL
-- part KHR3
set_option maxHeartbeats 0
namespace EPL
open PySem PySem.Spec PyProof.Rows L2 HandSHeadRun
theorem run3 (w : World) : (whole w).map (fun x => (obsN exA (getT x.2), obsN exB (getT x.2), obsN exC (getT x.2))) = some (true, true, true) := by
  kernel_rfl
end EPL
-- part KHR4
set_option maxHeartbeats 0
namespace EPL
open PySem PySem.Spec PyProof.Rows L2 HandSHeadRun
theorem run4 (w : World) : (whole w).map (fun x => (obsN (fun K => fnRest.all fun d => d.ok K) (getT x.2), obsN (fun K => fnRest.map fun d => He.fnW K d.at_) (getT x.2))) = some (true, fnRest.map He.DefD.val) := by
  kernel_rfl
end EPL
-- part KHR5
set_option maxHeartbeats 0
namespace EPL
open PySem PySem.Spec PyProof.Rows L2 HandSHeadRun
theorem run5 (w : World) : (whole w).map (fun x => (obsN (fun K => (faA ++ faB).all fun f => f.ok K) (getT x.2))) = some (true) := by
  kernel_rfl
end EPL
-- part KHR6
set_option maxHeartbeats 0
namespace EPL
open PySem PySem.Spec PyProof.Rows L2 HandSHeadRun
theorem run6 (w : World) : (whole w).map (fun x => (obsN (fun K => fnInit.all fun d => d.ok K) (getT x.2))) = some (true) := by
  kernel_rfl
end EPL
-- part KHR7
set_option maxHeartbeats 0
namespace EPL
open PySem PySem.Spec PyProof.Rows L2 HandSHeadRun
theorem run7 (w : World) : (whole w).map (fun x => (obsN (fun K => fnInit.map fun d => He.fnW K d.at_) (getT x.2))) = some (fnInit.map He.DefD.val) := by
  kernel_rfl
end EPL
-- part KH2
set_option maxHeartbeats 4000000
/-! H2: the runs joined. -/
noncomputable section
namespace EPL
open PySem PySem.Spec PyProof.Rows L2 HandSHeadRun
theorem fE_of {K : PySem.W.Frag} (a : exA K = true) (b : exB K = true) (c : exC K = true) (d : ((faA ++ faB).all fun f => f.ok K) = true) (e : (fnInit.all fun d => d.ok K) = true) (f : (fnInit.map fun d => He.fnW K d.at_) = fnInit.map He.DefD.val)
    (g : (fnRest.all fun d => d.ok K) = true) (h : (fnRest.map fun d => He.fnW K d.at_) = fnRest.map He.DefD.val) : fE K = vE := by
  unfold fE vE
  rw [a, b, c, d, e, f, g, h]
theorem runAll (w : World) : RunEqI RW qv hkE obE 20000 loose w := by
  obtain ⟨x, hx, a1⟩ := Option.map_eq_some_iff.mp (run1 w)
  have r2 := run2 w
  have r3 := run3 w
  have r4 := run4 w
  have r5 := run5 w
  have r6 := run6 w
  have r7 := run7 w
  rw [hx] at r2 r3 r4 r5 r6 r7
  have a2 := Option.some.inj r2
  have h3 := Option.some.inj r3
  have h4 := Option.some.inj r4
  have h5 := Option.some.inj r5
  have h6 := Option.some.inj r6
  have h7 := Option.some.inj r7
  simp only [Prod.mk.injEq, obsN_eq] at h3 h4 h5 h6 h7
  obtain ⟨b1, b2, b3⟩ := h3
  obtain ⟨b4, b5⟩ := h4
  have o : obE x.2 = hkE.val w := (obsN_eq fE (getT x.2)).trans (fE_of b1 b2 b3 h5 h6 h7 b4 b5)
  unfold RunEqI
  rw [show wholeF (fun p => stepQ (denQ tabQ) p w) fenceQ 20000 RW.prog = some x from hx]
  exact congrArg some (Prod.ext a1 (Prod.ext a2 o))
end EPL
end
-- part KA1
set_option maxHeartbeats 4000000
/-! evenpatch, law k00: own rules. 1: an error class of the program called with keywords. -/
namespace EPL
open PySem PySem.W PySem.Calls PyProof.Rows PySem.HandSPX
section
variable {M : Model} {A : Around} {E : Value → Shared → Prop} {h : Heap} {g : Array GenState} {d : Drawn} {t : Nat} {os : OsState}
variable {nm q : Str} {C N : Addr} {bs bm : List Value} {hdct : Bool} {sn : List Str} {sub : List Value} {ab : Bool} {col : Option Bool} {dd : Option Addr} {k0 k1 k2 k3 k5 : Option Value}
/-- the class's object, an heir of ValueError over classes of the program -/
abbrev EO (nm q : Str) (C N : Addr) (bs bm : List Value) (hdct : Bool) (sn : List Str) (sub : List Value) (ab : Bool) (col : Option Bool) (dd : Option Addr) (k0 k1 k2 k3 k5 : Option Value) : Obj :=
  excClassObj nm q C N bs bm hdct sn sub ab col dd k0 k1 k2 k3 k5 "ValueError.__new__"
theorem ve_in {Y : String} (hb : refsVE bm = true) (hY : veTail.contains (.type Y) = true) : (Value.ref C :: bm).contains (.type Y) = true := by
  rw [List.contains_cons, refsVE_contains Y bm hb, hY, Bool.or_true]
theorem ve_out {Y : String} (hb : refsVE bm = true) (hY : veTail.contains (.type Y) = false) : (Value.ref C :: bm).contains (.type Y) = false := by
  rw [List.contains_cons, refsVE_contains Y bm hb, hY]
  rfl
theorem new_check {rest : List Value} {kw : List (Str × Value)} {Q : Unit → Shared → Prop} (hb : refsVE bm = true)
    (hC : h.get? C = some (EO nm q C N bs bm hdct sn sub ab col dd k0 k1 k2 k3 k5)) (hq : Q () ⟨h, g, d, t, os⟩) :
    wpAny M A (checkBuiltinCall "ValueError.__new__" ⟨.ref C :: rest, kw⟩) Q E ⟨h, g, d, t, os⟩ := by
  have c1 := ve_in (C := C) (Y := "ValueError") hb (by decide +kernel)
  have f1 := F.excBase_ValueError.noStar
  simp only [checkBuiltinCall, F.excBase_ValueError.newKind, F.excBase_ValueError.newSplit, F.excBase_ValueError.newRow]
  repeat
    first
      | refine wpAny_loadPart_at hC ?_
      | (refine wpAny_isSubtype_exc hC ?_
         rw [c1])
      | refine wpAny_staticBase_exc hC ?_
      | refine wpAny_madeBy_exc hC ?_
      | simp only [bne_self_eq_false, Bool.false_eq_true, if_false]
      | wp_step
  exact hq
end
section
variable {prog : Program} {w : World} {A : Around} {E : Value → Shared → Prop} {R : Result → Shared → Prop} {h : Heap} {g : Array GenState} {d : Drawn} {t : Nat} {os : OsState}
variable {nm q : Str} {C N fI : Addr} {bs bm : List Value} {hdct : Bool} {sn : List Str} {sub : List Value} {ab : Bool} {col : Option Bool} {dd : Option Addr} {k0 k1 k2 k3 k5 : Option Value}
variable {rest : List Value} {kw : List (Str × Value)}
/-- the heap with the arguments' tuple and the new exception -/
abbrev made (h : Heap) (C : Addr) (rest : List Value) : Heap := (h.push (kdv_tup rest)).push (excO C h.objs.size)
theorem made_old {b : Addr} {o : Obj} (e : h.get? b = some o) : (made h C rest).get? b = some o :=
  Heap.get?_push_of_some _ (Heap.get?_push_of_some _ e)
theorem made_new : (made h C rest).get? (h.objs.size + 1) = some (excO C h.objs.size) := by
  unfold made
  heap_get
theorem new_run (hb : refsVE bm = true) (hC : h.get? C = some (EO nm q C N bs bm hdct sn sub ab col dd k0 k1 k2 k3 k5)) (hr : rest.length ≤ sizeLine)
    (hq : R (.ok (.ret (.ref (h.objs.size + 1)))) ⟨made h C rest, g, d, t, os⟩) :
    codeAny (model prog w) A (.builtin "ValueError.__new__" ⟨.ref C :: rest, kw⟩) R ⟨h, g, d, t, os⟩ := by
  have h1 := F.excBase_ValueError.ends
  have y1 := ve_in (C := C) (Y := "ValueError") hb (by decide +kernel)
  have n1 := ve_out (C := C) (Y := "AttributeError") hb (by decide +kernel)
  have n2 := ve_out (C := C) (Y := "NameError") hb (by decide +kernel)
  refine codeAny_builtinAt F.excBase_ValueError.entry ?_
  unfold Builtin.«BaseException.__new__»
  refine PySem.wpAt_bind ?_
  show PySem.wpAt _ _ _ (stack >>= _) _ _ _
  refine PySem.wpAt_bind (PySem.wpAt_stack fun p below => PySem.wpAt_of_wpAny ?_)
  wp_walk
  refine PySem.wpAt_of_wpAny ?_
  rw [F.excBase_ValueError.owner]
  repeat
    first
      | with_reducible refine wpAny_madeHere_exc F.excBase_ValueError.canon hC ?_
      | with_reducible refine wpAny_loadPart_at hC ?_
      | (with_reducible refine wpAny_isSubtype_exc hC ?_
         first | rw [y1] | rw [n1] | rw [n2])
      | wp_step
  show R _ _
  rw [Heap.size_push]
  exact hq
theorem tcall (hb : refsVE bm = true) (hC : h.get? C = some (EO nm q C N bs bm hdct sn sub ab col dd k0 k1 k2 k3 k5)) (hr : rest.length ≤ sizeLine)
    (hi : W.Looks (model prog w) h (typeLookup (.ref C) "__init__") (some (.ref fI))) (hbd : ∀ self, W.Looks (model prog w) h (bindSpecial (.ref fI) self) (.ref fI, [self])) {Q : Fin → Shared → Prop}
    (hq : codeAny (model prog w) A (.call (.ref fI) ⟨.ref (h.objs.size + 1) :: rest, kw⟩)
      (fun r s' => match r with | .ok (.ret v) => v = .none ∧ Q (.done (.ret (.ref (h.objs.size + 1)))) s' | .ok _ => False | .error e => E e s') ⟨made h C rest, g, d, t, os⟩) :
    wpAny (model prog w) A (Builtin.«type.__call__» ⟨.ref C :: rest, kw⟩) Q E ⟨h, g, d, t, os⟩ := by
  repeat
    first
      | with_reducible refine wpAny_loadPart_at hC ?_
      | with_reducible refine wpAny_madeBy_exc hC ?_
      | wp_step
  refine codeAny_call_builtin_code (Code.quiet_builtin _ F.excBase_ValueError.quiet) (new_check hb hC ?_)
  refine new_run hb hC hr ?_
  show wpAny _ _ _ _ _ _
  have kp : ∀ b o, h.get? b = some o → (made h C rest).get? b = some o := fun b o e => made_old e
  have hC1 := kp _ _ hC
  have hnew : (made h C rest).get? (h.objs.size + 1) = some (excO C h.objs.size) := made_new
  have cC : (Value.ref C :: bm).contains (.ref C) = true := by simp
  have i1 := hi.keeps kp
  have b1 := (hbd (.ref (h.objs.size + 1))).keeps kp
  unfold isInstance
  repeat
    first
      | with_reducible refine wpAny_loadPart_at hnew ?_
      | (with_reducible refine wpAny_isSubtype_exc hC1 ?_
         rw [cC])
      | wp_step
  show wpAny _ _ (typeLookup (.ref C) _) _ _ _
  refine i1.at ?_
  refine wpAny_holding (wpAny_bind (b1.at ?_))
  refine wpAny_bind (wpAny_call (codeAny_mono hq fun r s' z => ?_))
  rcases r with e | (v | _ | _ | _) <;> first | exact z | exact z.elim | skip
  obtain ⟨rfl, z⟩ := z
  first
    | exact wpAny_pure (wpAny_pure z)
    | (wp_walk
       exact z)
/-- C(.., k = v, ..), C an error class of the program with its own __init__ at fI -/
theorem ccall (hb : refsVE bm = true) (hC : h.get? C = some (EO nm q C N bs bm hdct sn sub ab col dd k0 k1 k2 k3 k5)) (hr : rest.length ≤ sizeLine)
    (hi : W.Looks (model prog w) h (typeLookup (.ref C) "__init__") (some (.ref fI))) (hbd : ∀ self, W.Looks (model prog w) h (bindSpecial (.ref fI) self) (.ref fI, [self]))
    (hq : codeAny (model prog w) (A.under (.builtin "type.__call__" ⟨.ref C :: rest, kw⟩)) (.call (.ref fI) ⟨.ref (h.objs.size + 1) :: rest, kw⟩) (W.InitBack (h.objs.size + 1) R) ⟨made h C rest, g, d, t, os⟩) :
    codeAny (model prog w) A (.call (.ref C) ⟨rest, kw⟩) R ⟨h, g, d, t, os⟩ := by
  have f1 := tc_lookup
  have f2 := tc_bind (.ref C)
  have f3 := tc_sub
  have hT : (⟨h, g, d, t, os⟩ : Shared).TypeIs (.ref C) "type" := ⟨_, hC, rfl⟩
  have ck : ∀ {Q : Unit → Shared → Prop} {A' : Around} {E' : Value → Shared → Prop}, Q () ⟨h, g, d, t, os⟩ → wpAny (model prog w) A' (checkBuiltinCall "type.__call__" ⟨.ref C :: rest, kw⟩) Q E' ⟨h, g, d, t, os⟩ := fun {Q A' E'} q => by
    simp only [checkBuiltinCall, tc_kind, tc_split]
    repeat
      any_goals
        first
          | assumption
          | with_reducible refine wpAny_loadPart_at hC ?_
          | with_reducible refine wpAny_onRaise ?_
          | with_reducible refine wpAny_map ?_
          | wp_step
  refine codeAny_of_tree ?_
  show wpAny _ _ (callAny (.ref C) _) _ _ _
  repeat
    any_goals
      first
        | assumption
        | with_reducible refine wpAny_loadPart_at hC ?_
        | wp_step
  refine ⟨rfl, ?_⟩
  refine codeAny_call_builtin_at (Code.quiet_builtin _ (by decide +kernel)) entry_typeCall (ck (tcall hb hC hr hi hbd ?_))
  refine codeAny_mono hq fun r s' z => ?_
  rcases r with e | (v | _ | _ | _) <;> exact z
end
end EPL
-- part KA2
set_option maxHeartbeats 4000000
/-! 2: errors of the program as values: made, asked, read; defs that may be called within an except suite. -/
namespace EPL
open PySem PySem.Spec PyProof.Rows L2 L2H
abbrev St := L2.St
/-! ### an error at e -/
/-- what the written part says of an error class -/
structure ErC (K : PySem.W.Frag) (C : Addr) : Prop where
  o : OexC K C
  i : ExcC K C
def ErrAt (H : Hp) (e C : Addr) (d : Option Addr) : Prop := H e = some (exo e C d) ∨ ∃ oe u, H e = some (.frz oe u) ∧ Zc (.ref C) d oe ∧ ∃ vs, oe.data = .fields vs
/-- at e an error of the class at C stands, its attributes fs -/
def ErrF (H : Hp) (e C : Addr) (fs : List (Str × V)) : Prop := (fs = [] ∧ ErrAt H e C none) ∨ ∃ d, ErrAt H e C (some d) ∧ H d = some (exd d fs)
/-- .. one that was made and not raised -/
def ErrN (H : Hp) (e C : Addr) (fs : List (Str × V)) : Prop := (fs = [] ∧ H e = some (exo e C none)) ∨ ∃ d, H e = some (exo e C (some d)) ∧ H d = some (exd d fs)
theorem ErrN.f {H : Hp} {e C : Addr} {fs : List (Str × V)} (x : ErrN H e C fs) : ErrF H e C fs := by
  rcases x with ⟨h1, h2⟩ | ⟨d, h1, h2⟩
  · exact .inl ⟨h1, .inl h2⟩
  · exact .inr ⟨d, .inl h1, h2⟩
theorem ErrAt.same {H H' : Hp} {e C : Addr} {d : Option Addr} (x : ErrAt H e C d) (s : Same H H') : ErrAt H' e C d := by
  rcases x with h | ⟨oe, u, h, z⟩
  · exact .inl (s _ _ h)
  · exact .inr ⟨oe, u, s _ _ h, z⟩
theorem ErrF.same {H H' : Hp} {e C : Addr} {fs : List (Str × V)} (x : ErrF H e C fs) (s : Same H H') : ErrF H' e C fs := by
  rcases x with ⟨h1, h2⟩ | ⟨d, h1, h2⟩
  · exact .inl ⟨h1, h2.same s⟩
  · exact .inr ⟨d, h1.same s, s _ _ h2⟩
theorem ErrN.same {H H' : Hp} {e C : Addr} {fs : List (Str × V)} (x : ErrN H e C fs) (s : Same H H') : ErrN H' e C fs := by
  rcases x with ⟨h1, h2⟩ | ⟨d, h1, h2⟩
  · exact .inl ⟨h1, s _ _ h2⟩
  · exact .inr ⟨d, s _ _ h1, s _ _ h2⟩
section
variable {P : Program} {w : World} {H : Hp} {h : Heap} {e C : Addr} {d : Option Addr} {fs : List (Str × V)}
theorem ErrAt.obj (hok : HOk P w H h) (x : ErrAt H e C d) : ∃ oe vs, h.get? e = some oe ∧ oe.cls = .ref C ∧ oe.dict = d ∧ oe.data = .fields vs := by
  rcases x with q | ⟨oe, u, q, z, vs, hv⟩
  · obtain ⟨t1, ho⟩ := exo_at hok q
    exact ⟨_, _, ho, rfl, rfl, rfl⟩
  · obtain ⟨ho, _⟩ := hok e _ q
    exact ⟨oe, vs, ho, z.1, z.2, hv⟩
theorem ErrF.inst (hok : HOk P w H h) (x : ErrF H e C fs) : ∃ oe od, PySem.W.InstAt h e oe C od ∧ ∀ f v, fs.lookup f = some v → ∃ o u, od = some o ∧ PySem.W.lookIn f o = some (some u) ∧ RelV v u := by
  rcases x with ⟨rfl, q⟩ | ⟨dx, q, qd⟩
  · obtain ⟨oe, vs, h1, h2, h3, h4⟩ := q.obj hok
    refine ⟨oe, none, ⟨h1, h2, by unfold PySem.W.notCls; rw [h4], by rw [h3]; trivial⟩, fun f v l => ?_⟩
    cases l
  · obtain ⟨oe, vs, h1, h2, h3, h4⟩ := q.obj hok
    obtain ⟨mA, hns, hr⟩ := exd_at hok qd
    obtain ⟨od, ho, hl⟩ := lookIn_ns hns
    refine ⟨oe, some od, ⟨h1, h2, by unfold PySem.W.notCls; rw [h4], by rw [h3]; exact ho⟩, fun f v l => ?_⟩
    obtain ⟨u, hu, ru⟩ := RelO.some_of (v := v) (o := mA f) (by rw [← l]; exact hr f)
    exact ⟨od, u, rfl, by rw [hl, hu], ru⟩
end
theorem ErC.kit {K : PySem.W.Frag} {C x : Addr} {ox : Obj} {od : Option Obj} (T : ErC K C) : PySem.W.KitX K (.ref x) (.ref C) (fun h => PySem.W.InstAt h x ox C od) := by
  obtain ⟨cd, hcd, _⟩ := PySem.W.any_some T.i.hd
  exact PySem.W.kitx_exc (by rw [hcd]; rfl) T.i.hg T.i.hk T.i.hs T.i.ha T.i.hn T.i.ht T.i.hm
section
variable {X : Cx}
/-- isinstance(e, c) -/
def rIsV (K : PySem.W.Frag) : List V → Hp → VK → Prop := fun xs H Q => ∃ (e C : Addr) (fs : List (Str × V)) (c : V) (cv : Value) (b : Bool), xs = [.ref e, c] ∧ ErrF H e C fs ∧ ErC K C ∧ (∀ u, RelV c u → u = cv) ∧ PySem.W.kitOne K (.ref C) cv = some b ∧ Q (.bl b) H
theorem call_isV : CallR X (.builtin "isinstance") (rIsV X.K) := by
  intro pins s σ H xs us Q I r h
  obtain ⟨e, C, fs, c, cv, b, rfl, hE, T, hcv, hk, q⟩ := h
  cases r with
  | cons rx rr =>
    cases rr with
    | cons rt rr =>
      cases rr
      cases rx
      have ec := hcv _ rt
      subst ec
      obtain ⟨oe, od, J, _⟩ := hE.inst I.hok
      exact PySem.W.kia_one T.kit I.kIn J hk (fun z => nomatch z) fun tk => ⟨.bl b, H, I.kept (t' := tk) fun _ _ z => z, rfl, q⟩
/-- e.n -/
def tErf (K : PySem.W.Frag) (n : Str) (te : TE) : TE := fun σ H Q => te σ H fun x H1 => ∃ (a C : Addr) (fs : List (Str × V)) (v : V), x = .ref a ∧ ErrF H1 a C fs ∧ ErC K C ∧ PySem.W.findIn K (.ref C) n = some none ∧ fs.lookup n = some v ∧ Q v H1
theorem pe_erf {e : Expr} {te : TE} {pos : Pos} {n : Str} (he : PE X e te) (hb : attributeBase e n X.env (eval e X.env) = eval e X.env := by rfl) : PE X (.Attribute e n pos) (tErf X.K n te) := by
  refine ⟨fun pins s σ H Q I h => ?_⟩
  refine attr_of hb (thn (he.run pins s σ H _ I h) fun u s1 hh => ?_)
  obtain ⟨x, H1, I1, rx, a, C, fs, v, ex, hE, T, hno, l, q⟩ := hh
  subst ex
  obtain rfl : u = Value.ref a := rx
  obtain ⟨oe, od, J, hl⟩ := hE.inst I1.hok
  obtain ⟨o, y, rfl, hy, ry⟩ := hl n v l
  exact HandSPX.exc_get I1.kIn J T.i.hg T.i.hk T.i.hs (PySem.W.findObj_own T.i.hd hno rfl hy) (handed_of ry) ⟨v, H1, I1.tok _, ry, q⟩
end
/-! ### a def that is called anywhere, raises nothing -/
structure FnN (P : Program) (w : World) (K : PySem.W.Frag) (mg : Str → Option Value) (base : Heap) (k : Nat) (f : Addr) (fd : FuncData) (ps : List Str) (sp : Around → Sp) : Prop where
  len : ∀ A vs H Q E, sp A vs H Q E → vs.length = ps.length
  run : ∀ (A : Around) (outer : List Env) (s : Shared) (H : Hp) (args : Args) (us : List Value) (vs : List V) (Q : VK) (E : XK), RoomH k A → Env0 P w K mg base A outer s H → BindsTo s fd args (ps.zip us) → Vals vs us → sp A vs H Q E →
    codeAny (model P w) A (.call (.ref f) args) (CR CX0 outer P w H s Q E) s
section
variable {P : Program} {w : World} {K : PySem.W.Frag} {mg : Str → Option Value} {base : Heap}
/-- some object of the base, for a pin that says nothing -/
theorem dumPin {A : Around} {outer : List Env} {s : Shared} {H : Hp} (e0 : Env0 P w K mg base A outer s H) : ∃ p : Addr × Obj, PinOk outer H s p := by
  obtain ⟨o, es, ep, ho, hd, _⟩ := e0.mod.glob
  obtain ⟨q1, q2⟩ := e0.bs _ _ ho
  refine ⟨(mainGlobals, o), q1, q2, fun hm => ?_, fun v z => ?_⟩
  · have z := (e0.funs.mem hm).1
    rw [ho] at z
    cases z
  · have z1 : Data.dict es ep = Data.cell v := hd.symm.trans z
    cases z1
/-- the rule for such a def -/
theorem fn_any {x qual : Str} {params : Arguments} {body : List Stmt} {scope : Scope} {f : Addr} {fd : FuncData} {N ps : List Str} {k : Nat} {sp : Around → Sp} {dvs : List V} {kws : List (Str × V)} (F : FunD K x qual params body scope dvs kws f fd) (S : FnScope N ps scope)
    (len : ∀ A vs H Q E, sp A vs H Q E → vs.length = ps.length)
    (hbody : ∀ (cdv : Value) (A : Around) (outer : List Env) (s : Shared) (H : Hp) (vs : List V) (Q : VK) (E : XK) (p : Addr × Obj), RoomH k (A.deeper (envOfC qual scope s.heap.objs.size f cdv)) → sp A vs H Q E →
      ∃ t, PSs (cxH CX0 P w K mg base N qual scope f cdv A outer s H E p).nox body t ∧ t { nx := fun _ H' => Q .non H', rt := Q } (L2.start N vs) H) : FnN P w K mg base (k + 1) f fd ps sp := by
  obtain ⟨oc, od, dV, kV, doc, pm, an, cdv, ct, osl, rfl, lk, hcd, _, _⟩ := F.ex
  refine ⟨len, fun A outer s H args us vs Q E hr e0 hb r hsp => ?_⟩
  have nl := len _ _ _ _ _ hsp
  obtain ⟨p, hp⟩ := dumPin e0
  have KX : K.In s.heap := e0.mod.kin.keeps fun b o e => (e0.bs b o e).1
  have lim : s.heap.NoLimit := e0.mod.nolimit.keeps fun b o e => (e0.bs b o e).1
  have kinds : ∀ y ∈ ps.zip us, scope.names.lookup y.1 = some .local ∨ (scope.names.lookup y.1 = some .cell ∧ ((cellsFrom (s.heap.objs.size + 1) scope.names []).lookup y.1).isSome = true) := fun y hy => by
    rcases S.par y.1 (List.of_mem_zip hy).1 with q | q
    · exact .inl q
    · exact .inr ⟨q, PySem.W.cellsFrom_some _ _ _ (.inl q)⟩
  refine codeAny_call_function hr.depth (KX _ _ lk) rfl S.co S.gen rfl (PySem.W.codeRec_of KX hcd) (hb _ _ _ _ ?_)
  refine wpAny_newFunctionEnv_cells S.kind kinds fun env he s1 hc => ?_
  subst he
  refine ⟨lim.keeps hc.toInCall.keep, codeAny_func ?_⟩
  obtain ⟨t, ht, hq⟩ := hbody cdv A outer s H vs Q E p (hr.deeper _) hsp
  have I : Inv (cxH CX0 P w K mg base N qual scope f cdv A outer s H E p) [] (L2.start N vs) H s1 := inv_startH S hp e0 nl r hc
  refine wpAny_mono (ht.nox.run [] s1 (L2.start N vs) H _ I hq) (fun fl s' hs => ?_) fun e s' z => z
  have done : ∀ {σ' : St} {H' : Hp} {v : V} {u : Value}, Inv (cxH CX0 P w K mg base N qual scope f cdv A outer s H E p) [] σ' H' s' → RelV v u → Q v H' → CE outer P w H s Q u s' :=
    fun {σ' H' v u} J rv q => ⟨v, H', J.os, J.bare, J.base, J.hok, rv, q⟩
  cases fl with
  | next =>
    obtain ⟨σ', H', J, q⟩ := hs
    exact done (v := V.non) (u := Value.none) J rfl q
  | ret u =>
    obtain ⟨v, σ', H', J, rv, q⟩ := hs
    exact done J rv q
  | brk =>
    obtain ⟨_, _, _, q⟩ := hs
    exact q.elim
  | cont =>
    obtain ⟨_, _, _, q⟩ := hs
    exact q.elim
end
end EPL
-- part KA3
set_option maxHeartbeats 4000000
/-! 3: errors are made. -/
namespace EPL
open PySem PySem.Spec PyProof.Rows L2 L2H
/-- the items of l at the places ix -/
def sel {α : Type} (ix : List Nat) (l : List α) : List α := ix.filterMap fun i => l[i]?
theorem sel_vals {vs : List V} {us : List Value} (r : Vals vs us) : ∀ ix : List Nat, Vals (sel ix vs) (sel ix us)
  | [] => .nil
  | i :: ix => by
    have ih := sel_vals r ix
    unfold sel at ih ⊢
    cases e : vs[i]? with
    | none =>
      have e2 := r.none_of e
      rw [List.filterMap_cons, List.filterMap_cons, e, e2]
      exact ih
    | some v =>
      obtain ⟨u, e2, ru⟩ := r.get e
      rw [List.filterMap_cons, List.filterMap_cons, e, e2]
      exact .cons ru ih
/-- what the __init__ of the error class at C does -/
def spInit (C : Addr) (ns : List Str) : Sp := fun vs H Q _ => ∃ (a : Addr) (xs : List V), vs = .ref a :: xs ∧ xs.length = ns.length ∧ H a = some (exo a C none) ∧
  ∀ H', (∀ b o, b ≠ a → H b = some o → H' b = some o) → ErrN H' a C (ns.zip xs).reverse → Q .non H'
/-- how C(.., k = ..) binds: n values, keywords ks, taken at the places ix -/
def EBind (fd : FuncData) (ps : List Str) (n : Nat) (ks : List Str) (ix : List Nat) : Prop :=
  ∀ (s : Shared) (x : Value) (us ws : List Value), us.length = n → ws.length = ks.length → BindsTo s fd ⟨x :: us, ks.zip ws⟩ (ps.zip (x :: sel ix (us ++ ws)))
/-- all that an error class must have to be made -/
structure ErM (P : Program) (w : World) (K : PySem.W.Frag) (mg : Str → Option Value) (base : Heap) (x : Str) (C : Addr) (ns : List Str) (fd : FuncData) : Prop where
  c : ErC K C
  g : mg x = some (.ref C)
  run : ∃ fI, PySem.W.findIn K (.ref C) "__init__" = some (some (.ref fI)) ∧ PySem.W.typeIn K (.ref fI) = some (.type "function") ∧ FnOk P w K mg base CX0 1 fI fd ("self" :: ns) (spInit C ns)
section
variable {X : Cx} {x : Str} {C : Addr} {ns ks : List Str} {ix : List Nat} {n : Nat} {fd : FuncData} {p pos : Pos} {e : Expr} {es : List Expr} {kws : List Keyword} {t tk : TA}
theorem run_err {pins : List (Addr × Obj)} {σ : L2.St} {H : Hp} {s : Shared} {Q : VK} {us ws : List Value} {vs zs : List V} (M : ErM X.prog X.w X.K X.mg X.base x C ns fd) (hr : Room 2 X.A) (hb : EBind fd ("self" :: ns) n ks ix)
    (I : Inv X pins σ H s) (r : Vals vs us) (rz : Vals zs ws) (l1 : vs.length = n) (l2 : zs.length = ks.length) (l3 : (sel ix (vs ++ zs)).length = ns.length) (l4 : vs.length ≤ 1000)
    (h : ∀ a H', Same H H' → H a = none → ErrN H' a C (ns.zip (sel ix (vs ++ zs))).reverse → Q (.ref a) H') :
    wpAny (model X.prog X.w) X.A (call (.ref C) us (ks.zip ws)) (EP X pins σ Q) X.xe s := by
  obtain ⟨fI, iC, tI, F1⟩ := M.run
  obtain ⟨nm, q, N, bs, bm, sn, sub, ab, col, dd, k0, k1, k2, k3, k5, hC, hbm⟩ := M.c.o.cls
  obtain ⟨hp, g, dr, tkk, os⟩ := s
  have hn : H (hp.objs.size + 1) = none := I.hok.fresh (Nat.le_succ _)
  have I2 : Inv X pins σ (upd H (hp.objs.size + 1) (exo (hp.objs.size + 1) C none)) ⟨made hp C us, g, dr, tkk, os⟩ :=
    I.laid (t' := tkk) (h' := made hp C us) (fun b o e => made_old e) (Nat.le_succ _) (exo_ok made_new)
  have rr : Vals (sel ix (vs ++ zs)) (sel ix (us ++ ws)) := sel_vals (r.append rz) ix
  have e1 : us.length = n := r.length.symm.trans l1
  have e2 : ws.length = ks.length := rz.length.symm.trans l2
  have hus : us.length ≤ sizeLine := by
    rw [← r.length, sizeLine_eq]
    omega
  refine wpAny_call (ccall hbm (I.kIn _ _ hC) hus (PySem.W.looks_findIn I.kIn iC) (fun self => PySem.W.bind_fn I.kIn self tI) ?_)
  refine codeAny_mono (F1.run _ X.stack _ _ ⟨.ref (hp.objs.size + 1) :: us, ks.zip ws⟩ (.ref (hp.objs.size + 1) :: sel ix (us ++ ws)) (.ref (hp.objs.size + 1) :: sel ix (vs ++ zs))
    (fun v H2 => v = .non ∧ (∀ b o, b ≠ hp.objs.size + 1 → upd H (hp.objs.size + 1) (exo (hp.objs.size + 1) C none) b = some o → H2 b = some o) ∧ ErrN H2 (hp.objs.size + 1) C (ns.zip (sel ix (vs ++ zs))).reverse) E0
    (hr.make C us (ks.zip ws)) (I2.env0.make C us (ks.zip ws)) (hb _ _ us ws e1 e2) (.cons rfl rr) ⟨_, _, rfl, l3, upd_same, fun H' k1 k2 => ⟨rfl, k1, k2⟩⟩) fun r' s' hq => ?_
  cases r' with
  | error er => exact hq.elim
  | ok fl =>
    cases fl with
    | next => exact hq.elim
    | brk => exact hq.elim
    | cont => exact hq.elim
    | ret u =>
      obtain ⟨v, H2, os2, bare2, un2, hok2, rv, ev, kp, eE⟩ := hq
      subst ev
      refine ⟨rv, .ref (hp.objs.size + 1), H2, I2.call' (ch := []) os2 un2 hok2 bare2 (fun b z => absurd z (by simp)), rfl, h _ H2 (fun b o z => ?_) hn eE⟩
      have nb : b ≠ hp.objs.size + 1 := ne_of_none z hn
      exact kp b o nb (by rw [upd_ne nb]; exact z)
/-- C(.., k = ..) -/
def tErr (C : Addr) (ns : List Str) (n : Nat) (ks : List Str) (ix : List Nat) (t tk : TA) : TE := fun σ H Q => t σ H fun vs H1 => tk σ H1 fun zs H2 =>
  vs.length = n ∧ zs.length = ks.length ∧ (sel ix (vs ++ zs)).length = ns.length ∧ n ≤ 1000 ∧ ∀ a H', Same H2 H' → H2 a = none → ErrN H' a C (ns.zip (sel ix (vs ++ zs))).reverse → Q (.ref a) H'
/-- C(e, .., k = v, ..) -/
theorem pe_err (M : ErM X.prog X.w X.K X.mg X.base x C ns fd) (hr : Room 2 X.A) (hb : EBind fd ("self" :: ns) n ks ix) (hg : Gl X x) (ha : PA X (e :: es) t) (hkw : PK X kws tk)
    (hall : (backToKw pos (keywordEach kws X.env)).all (·.1.isSome) = true := by rfl) (hks : (backToKw pos (keywordEach kws X.env)).filterMap (·.1) = ks := by rfl) (hdb : (x == ("__debug__" : Str)) = false := by decide)
    (he : starEach (e :: es) X.env = (false, eval e X.env) :: starEach es X.env := by rfl) (hpl : ((backTo pos (starEach (e :: es) X.env)).any (·.1) || (backToKw pos (keywordEach kws X.env)).any (·.1.isNone)) = false := by rfl) :
    PE X (.Call (.Name x p) (e :: es) kws pos) (tErr C ns n ks ix t tk) := by
  refine ⟨fun pins s σ H Q I h => ?_⟩
  refine wpAny_Call_Name_kw (ld_glob I hg M.g ?_ hdb)
  refine PySem.W.callWith_KW (h₀ := X.base) I.ok.mod.kin M.c.o.kC hall (thn (ha.run pos pins s σ H _ I h) fun us s1 ⟨vs, H1, I1, r1, q1⟩ => ?_) hpl he
  refine thn (hkw.run pos pins s1 σ H1 _ I1 q1) fun ws s2 ⟨zs, H2, I2, r2, l1, l2, l3, l4, q2⟩ => ⟨I2.kIn, ?_⟩
  rw [hks]
  exact run_err M hr hb I2 r1 r2 l1 l2 l3 (l1 ▸ l4) q2
/-- C(k = v, ..) -/
theorem pe_errK (M : ErM X.prog X.w X.K X.mg X.base x C ns fd) (hr : Room 2 X.A) (hb : EBind fd ("self" :: ns) 0 ks ix) (hg : Gl X x) (hkw : PK X kws tk)
    (hall : (backToKw pos (keywordEach kws X.env)).all (·.1.isSome) = true := by rfl) (hks : (backToKw pos (keywordEach kws X.env)).filterMap (·.1) = ks := by rfl) (hdb : (x == ("__debug__" : Str)) = false := by decide)
    (hpl : ((backTo pos (starEach [] X.env)).any (·.1) || (backToKw pos (keywordEach kws X.env)).any (·.1.isNone)) = false := by rfl) :
    PE X (.Call (.Name x p) [] kws pos) (tErr C ns 0 ks ix tNil tk) := by
  refine ⟨fun pins s σ H Q I h => ?_⟩
  refine wpAny_Call_Name_kw (ld_glob I hg M.g ?_ hdb)
  refine PySem.W.callWith_KW0 (h₀ := X.base) I.ok.mod.kin M.c.o.kC hall ?_ hpl
  refine thn (hkw.run pos pins s σ H _ I h) fun ws s2 ⟨zs, H2, I2, r2, l1, l2, l3, l4, q2⟩ => ⟨I2.kIn, ?_⟩
  rw [hks]
  exact run_err (us := []) M hr hb I2 .nil r2 l1 l2 l3 (Nat.zero_le _) q2
/-- C() -/
theorem pe_err0 (M : ErM X.prog X.w X.K X.mg X.base x C [] fd) (hr : Room 2 X.A) (hb : EBind fd ["self"] 0 [] []) (hg : Gl X x) (hdb : (x == ("__debug__" : Str)) = false := by decide) :
    PE X (.Call (.Name x p) [] [] pos) (tErr C [] 0 [] [] tNil tNil) := by
  refine ⟨fun pins s σ H Q I h => ?_⟩
  obtain ⟨l1, l2, l3, l4, q2⟩ := h
  refine wpAny_Call_Name_kw (ld_glob I hg M.g ?_ hdb)
  exact PySem.W.callWith_K0 I.kIn M.c.o.kC (run_err (us := []) (ws := []) M hr hb I .nil .nil l1 l2 l3 (Nat.zero_le _) q2)
end
/-! ### the __init__ of an error class: Base.__init__(self, text), then self.f = f -/
/-- Base, the class at Pa, reads its __init__ off ValueError -/
structure PaC (K : PySem.W.Frag) (mg : Str → Option Value) (x : Str) (Pa : Addr) : Prop where
  g : mg x = some (.ref Pa)
  ga : PySem.W.specialIn K (.ref Pa) "__getattribute__" = some (some (.builtin "type.__getattribute__"))
  rd : PySem.W.readsIn K Pa (.type "type") = true
  at_ : PySem.W.findCls K (.ref Pa) (.type "type") "__init__" = some (.val (.builtin "ValueError.__init__"))
section
variable {X : Cx} {x : Str} {Pa : Addr} {e : Expr} {es : List Expr} {ta : TA} {p1 p2 pos : Pos}
theorem pe_painit {pl : Sem Bool} (T : PaC X.K X.mg x Pa) (hg : Gl X x) (ha : PA X (e :: es) ta)
    (hc : eval (.Call (.Attribute (.Name x p1) "__init__" p2) (e :: es) [] pos) X.env = (do
      let ov ← eval (.Name x p1) X.env
      standAt p2.atName
      let (f, first) ← holding [ov] (getMethod ov "__init__" pl)
      callWith pos f first (backTo pos (starEach (e :: es) X.env)) (backToKw pos (keywordEach [] X.env))) := by rfl)
    (hdb : (x == ("__debug__" : Str)) = false := by decide) (he : starEach (e :: es) X.env = (false, eval e X.env) :: starEach es X.env := by rfl) (hpl : (backTo pos (starEach es X.env)).any (·.1) = false := by rfl) :
    PE X (.Call (.Attribute (.Name x p1) "__init__" p2) (e :: es) [] pos) (tVeI X.K ta) := by
  refine ⟨fun pins s σ H Q I h => ?_⟩
  refine PySem.W.methodCall_KW (ld_glob I hg T.g ?_ hdb) hc
  refine PySem.W.method_cls I.kIn T.ga (PySem.W.cls_value I.kIn T.rd T.at_ (by decide +kernel) ?_)
  show wpAny _ _ (callWith pos (Value.builtin "ValueError.__init__") [] (backTo pos (starEach (e :: es) X.env)) []) _ _ _
  refine PyProof.Rows.callWith_method1 (thn (ha.run pos pins _ σ H _ (I.tok _) h) fun us s1 ⟨vs, H1, I1, r1, a, C, ws, ev, hl, T1, ea, q⟩ => ?_) he hpl
  subst ev
  cases r1 with
  | @cons _ u0 _ ur ra rw' =>
    obtain rfl : u0 = Value.ref a := ra
    have hlen : ur.length ≤ sizeLine := by
      rw [← Paired.length rw', sizeLine_eq]
      omega
    exact oinit_ok T1 I1 ea hlen fun s' J => ⟨.non, H1, J, rfl, q⟩
end
end EPL
-- part KA4
set_option maxHeartbeats 4000000
/-! 4: the __init__ of an error class with n attributes keeps its promise. Printed by gen_init.py. -/
namespace EPL
open PySem PySem.Spec PyProof.Rows L2 L2H
/-- the first row of such an __init__ -/
def rowBase (msg : Str) (j : Nat) (p1 p2 p3 p4 p5 p6 : Pos) : Stmt := .Expr (.Call (.Attribute (.Name "PactError" p1) "__init__" p2) [.Name "self" p3, .Constant (.str msg) j p4] [] p5) p6
/-- the call in it goes as a method's call does (its places stand on one line) -/
def rowOk (msg : Str) (j : Nat) (p1 p2 p3 p4 p5 : Pos) : Prop := ∀ env : Env, ∃ pl : Sem Bool, eval (.Call (.Attribute (.Name "PactError" p1) "__init__" p2) [.Name "self" p3, .Constant (.str msg) j p4] [] p5) env = (do
  let ov ← eval (.Name "PactError" p1) env
  standAt p2.atName
  let (f, first) ← holding [ov] (getMethod ov "__init__" pl)
  callWith p5 f first (backTo p5 (starEach [.Name "self" p3, .Constant (.str msg) j p4] env)) (backToKw p5 (keywordEach [] env)))
/-- self.f = f -/
def rowFld (f : Str) (p1 p2 p3 p4 : Pos) : Stmt := .Assign [.Attribute (.Name "self" p1) f p2] (.Name f p3) p4
section
variable {P : Program} {w : World} {K : PySem.W.Frag} {mg : Str → Option Value} {base : Heap} {C Pa fI : Addr} {fd : FuncData} {q : Str} {params : Arguments} {scope : Scope} {msg : Str} {j : Nat} {a1 a2 a3 a4 a5 a6 : Pos}
theorem upd_b {H : Hp} {a b c : Addr} {o u v : HO} (hb : b ≠ a) (h : H b = some v) (hc : H c = none) : upd (upd H c u) a o b = some v := by
  rw [upd_ne hb, upd_ne (ne_of_none h hc)]
  exact h
theorem ok_init0 (T : ErC K C) (B : PaC K mg "PactError" Pa) (F : FunD K "__init__" q params [rowBase msg j a1 a2 a3 a4 a5 a6] scope [] [] fI fd) (S : FnScope ["self"] ["self"] scope)
    (ro : rowOk msg j a1 a2 a3 a4 a5) (lx : scope.names.lookup ("PactError" : Str) = some .globalImplicit) (ls : scope.names.lookup ("self" : Str) = some .local) : FnOk P w K mg base CX0 1 fI fd ["self"] (spInit C []) := by
  refine FunD.ok F S (fun vs H Q E h => ?_) (fun cdv A outer s H vs Q E hr h => ?_)
  · obtain ⟨a, xs, rfl, hl, _⟩ := h
    rw [List.length_cons, hl]
    rfl
  · obtain ⟨a, xs, rfl, hl, ha, k⟩ := h
    obtain rfl : xs = [] := List.length_eq_zero_iff.mp hl
    obtain ⟨pl, hpl⟩ := ro (cxOf CX0 P w K mg base ["self"] q scope fI cdv A outer s H E).env
    refine ⟨_, PSs.nox (pss_one (ps_expr (pe_painit (pl := pl) B lx (pa_cons (pe_var (i := 0) rfl (.inl ls)) (pa_cons pe_str pa_nil)) hpl))), ?_⟩
    refine ⟨.ref a, rfl, a, C, [.str msg], rfl, (by simp), T.o, ha, ?_⟩
    exact k H (fun b o _ z => z) (.inl ⟨rfl, ha⟩)
theorem ok_init1 {f1 : Str} {b11 b12 b13 b14 : Pos} (T : ErC K C) (B : PaC K mg "PactError" Pa) (F : FunD K "__init__" q params [rowBase msg j a1 a2 a3 a4 a5 a6, rowFld f1 b11 b12 b13 b14] scope [] [] fI fd) (S : FnScope ["self", f1] ["self", f1] scope)
    (ro : rowOk msg j a1 a2 a3 a4 a5) (lx : scope.names.lookup ("PactError" : Str) = some .globalImplicit) (ls : scope.names.lookup ("self" : Str) = some .local) (l1 : scope.names.lookup f1 = some .local) (n1 : PySem.W.findIn K (.ref C) f1 = some none) (d1 : (f1 == ("__debug__" : Str)) = false) (c1 : (f1 == ("__classdict__" : Str)) = false) : FnOk P w K mg base CX0 1 fI fd ["self", f1] (spInit C [f1]) := by
  refine FunD.ok F S (fun vs H Q E h => ?_) (fun cdv A outer s H vs Q E hr h => ?_)
  · obtain ⟨a, xs, rfl, hl, _⟩ := h
    rw [List.length_cons, hl]
    rfl
  · obtain ⟨a, xs, rfl, hl, ha, k⟩ := h
    obtain ⟨v1, rfl⟩ : ∃ v1 : V, xs = [v1] := by
      match xs, hl with
      | [v1], _ => exact ⟨_, rfl⟩
    obtain ⟨pl, hpl⟩ := ro (cxOf CX0 P w K mg base ["self", f1] q scope fI cdv A outer s H E).env
    refine ⟨_, PSs.nox (pss_cons (ps_expr (pe_painit (pl := pl) B lx (pa_cons (pe_var (i := 0) rfl (.inl ls)) (pa_cons pe_str pa_nil)) hpl)) (pss_one (ps_ost (pe_var (i := 0) rfl (.inl ls)) (pe_var (i := 1) rfl (.inl l1) d1 c1)))), ?_⟩
    refine ⟨.ref a, rfl, a, C, [.str msg], rfl, (by simp), T.o, ha, ?_⟩
    refine ⟨v1, rfl, .ref a, rfl, a, C, rfl, T.o, n1, .inl ⟨ha, fun d nd nda => ?_⟩⟩
    have kp : ∀ b o, b ≠ a → H b = some o → b ≠ d := fun b o _ z => ne_of_none z nd
    have r1 : upd (upd H d (exd d [(f1, v1)])) a (exo a C (some d)) a = some (exo a C (some d)) := upd_same
    have s1 : upd (upd H d (exd d [(f1, v1)])) a (exo a C (some d)) d = some (exd d [(f1, v1)]) := by rw [upd_ne nda, upd_same]
    have u1 : ∀ b o, b ≠ a → H b = some o → upd (upd H d (exd d [(f1, v1)])) a (exo a C (some d)) b = some o := fun b o hb z => by rw [upd_ne hb, upd_ne (kp b o hb z)]; exact z
    generalize upd (upd H d (exd d [(f1, v1)])) a (exo a C (some d)) = H1 at r1 s1 u1 ⊢
    exact k H1 u1 (.inr ⟨d, r1, s1⟩)
theorem ok_init2 {f1 : Str} {b11 b12 b13 b14 : Pos} {f2 : Str} {b21 b22 b23 b24 : Pos} (T : ErC K C) (B : PaC K mg "PactError" Pa) (F : FunD K "__init__" q params [rowBase msg j a1 a2 a3 a4 a5 a6, rowFld f1 b11 b12 b13 b14, rowFld f2 b21 b22 b23 b24] scope [] [] fI fd) (S : FnScope ["self", f1, f2] ["self", f1, f2] scope)
    (ro : rowOk msg j a1 a2 a3 a4 a5) (lx : scope.names.lookup ("PactError" : Str) = some .globalImplicit) (ls : scope.names.lookup ("self" : Str) = some .local) (l1 : scope.names.lookup f1 = some .local) (n1 : PySem.W.findIn K (.ref C) f1 = some none) (d1 : (f1 == ("__debug__" : Str)) = false) (c1 : (f1 == ("__classdict__" : Str)) = false) (l2 : scope.names.lookup f2 = some .local) (n2 : PySem.W.findIn K (.ref C) f2 = some none) (d2 : (f2 == ("__debug__" : Str)) = false) (c2 : (f2 == ("__classdict__" : Str)) = false) : FnOk P w K mg base CX0 1 fI fd ["self", f1, f2] (spInit C [f1, f2]) := by
  refine FunD.ok F S (fun vs H Q E h => ?_) (fun cdv A outer s H vs Q E hr h => ?_)
  · obtain ⟨a, xs, rfl, hl, _⟩ := h
    rw [List.length_cons, hl]
    rfl
  · obtain ⟨a, xs, rfl, hl, ha, k⟩ := h
    obtain ⟨v1, v2, rfl⟩ : ∃ v1 v2 : V, xs = [v1, v2] := by
      match xs, hl with
      | [v1, v2], _ => exact ⟨_, _, rfl⟩
    obtain ⟨pl, hpl⟩ := ro (cxOf CX0 P w K mg base ["self", f1, f2] q scope fI cdv A outer s H E).env
    refine ⟨_, PSs.nox (pss_cons (ps_expr (pe_painit (pl := pl) B lx (pa_cons (pe_var (i := 0) rfl (.inl ls)) (pa_cons pe_str pa_nil)) hpl)) (pss_cons (ps_ost (pe_var (i := 0) rfl (.inl ls)) (pe_var (i := 1) rfl (.inl l1) d1 c1)) (pss_one (ps_ost (pe_var (i := 0) rfl (.inl ls)) (pe_var (i := 2) rfl (.inl l2) d2 c2))))), ?_⟩
    refine ⟨.ref a, rfl, a, C, [.str msg], rfl, (by simp), T.o, ha, ?_⟩
    refine ⟨v1, rfl, .ref a, rfl, a, C, rfl, T.o, n1, .inl ⟨ha, fun d nd nda => ?_⟩⟩
    have kp : ∀ b o, b ≠ a → H b = some o → b ≠ d := fun b o _ z => ne_of_none z nd
    have r1 : upd (upd H d (exd d [(f1, v1)])) a (exo a C (some d)) a = some (exo a C (some d)) := upd_same
    have s1 : upd (upd H d (exd d [(f1, v1)])) a (exo a C (some d)) d = some (exd d [(f1, v1)]) := by rw [upd_ne nda, upd_same]
    have u1 : ∀ b o, b ≠ a → H b = some o → upd (upd H d (exd d [(f1, v1)])) a (exo a C (some d)) b = some o := fun b o hb z => by rw [upd_ne hb, upd_ne (kp b o hb z)]; exact z
    generalize upd (upd H d (exd d [(f1, v1)])) a (exo a C (some d)) = H1 at r1 s1 u1 ⊢
    refine ⟨v2, rfl, .ref a, rfl, a, C, rfl, T.o, n2, .inr ⟨d, _, r1, s1, (by simp), ?_⟩⟩
    have r2 : upd H1 d (exd d [(f2, v2), (f1, v1)]) a = some (exo a C (some d)) := by rw [upd_ne (Ne.symm nda)]; exact r1
    have s2 : upd H1 d (exd d [(f2, v2), (f1, v1)]) d = some (exd d [(f2, v2), (f1, v1)]) := upd_same
    have u2 : ∀ b o, b ≠ a → H b = some o → upd H1 d (exd d [(f2, v2), (f1, v1)]) b = some o := fun b o hb z => by rw [upd_ne (kp b o hb z)]; exact u1 b o hb z
    generalize upd H1 d (exd d [(f2, v2), (f1, v1)]) = H2 at r2 s2 u2 ⊢
    exact k H2 u2 (.inr ⟨d, r2, s2⟩)
theorem ok_init3 {f1 : Str} {b11 b12 b13 b14 : Pos} {f2 : Str} {b21 b22 b23 b24 : Pos} {f3 : Str} {b31 b32 b33 b34 : Pos} (T : ErC K C) (B : PaC K mg "PactError" Pa) (F : FunD K "__init__" q params [rowBase msg j a1 a2 a3 a4 a5 a6, rowFld f1 b11 b12 b13 b14, rowFld f2 b21 b22 b23 b24, rowFld f3 b31 b32 b33 b34] scope [] [] fI fd) (S : FnScope ["self", f1, f2, f3] ["self", f1, f2, f3] scope)
    (ro : rowOk msg j a1 a2 a3 a4 a5) (lx : scope.names.lookup ("PactError" : Str) = some .globalImplicit) (ls : scope.names.lookup ("self" : Str) = some .local) (l1 : scope.names.lookup f1 = some .local) (n1 : PySem.W.findIn K (.ref C) f1 = some none) (d1 : (f1 == ("__debug__" : Str)) = false) (c1 : (f1 == ("__classdict__" : Str)) = false) (l2 : scope.names.lookup f2 = some .local) (n2 : PySem.W.findIn K (.ref C) f2 = some none) (d2 : (f2 == ("__debug__" : Str)) = false) (c2 : (f2 == ("__classdict__" : Str)) = false) (l3 : scope.names.lookup f3 = some .local) (n3 : PySem.W.findIn K (.ref C) f3 = some none) (d3 : (f3 == ("__debug__" : Str)) = false) (c3 : (f3 == ("__classdict__" : Str)) = false) : FnOk P w K mg base CX0 1 fI fd ["self", f1, f2, f3] (spInit C [f1, f2, f3]) := by
  refine FunD.ok F S (fun vs H Q E h => ?_) (fun cdv A outer s H vs Q E hr h => ?_)
  · obtain ⟨a, xs, rfl, hl, _⟩ := h
    rw [List.length_cons, hl]
    rfl
  · obtain ⟨a, xs, rfl, hl, ha, k⟩ := h
    obtain ⟨v1, v2, v3, rfl⟩ : ∃ v1 v2 v3 : V, xs = [v1, v2, v3] := by
      match xs, hl with
      | [v1, v2, v3], _ => exact ⟨_, _, _, rfl⟩
    obtain ⟨pl, hpl⟩ := ro (cxOf CX0 P w K mg base ["self", f1, f2, f3] q scope fI cdv A outer s H E).env
    refine ⟨_, PSs.nox (pss_cons (ps_expr (pe_painit (pl := pl) B lx (pa_cons (pe_var (i := 0) rfl (.inl ls)) (pa_cons pe_str pa_nil)) hpl)) (pss_cons (ps_ost (pe_var (i := 0) rfl (.inl ls)) (pe_var (i := 1) rfl (.inl l1) d1 c1)) (pss_cons (ps_ost (pe_var (i := 0) rfl (.inl ls)) (pe_var (i := 2) rfl (.inl l2) d2 c2)) (pss_one (ps_ost (pe_var (i := 0) rfl (.inl ls)) (pe_var (i := 3) rfl (.inl l3) d3 c3)))))), ?_⟩
    refine ⟨.ref a, rfl, a, C, [.str msg], rfl, (by simp), T.o, ha, ?_⟩
    refine ⟨v1, rfl, .ref a, rfl, a, C, rfl, T.o, n1, .inl ⟨ha, fun d nd nda => ?_⟩⟩
    have kp : ∀ b o, b ≠ a → H b = some o → b ≠ d := fun b o _ z => ne_of_none z nd
    have r1 : upd (upd H d (exd d [(f1, v1)])) a (exo a C (some d)) a = some (exo a C (some d)) := upd_same
    have s1 : upd (upd H d (exd d [(f1, v1)])) a (exo a C (some d)) d = some (exd d [(f1, v1)]) := by rw [upd_ne nda, upd_same]
    have u1 : ∀ b o, b ≠ a → H b = some o → upd (upd H d (exd d [(f1, v1)])) a (exo a C (some d)) b = some o := fun b o hb z => by rw [upd_ne hb, upd_ne (kp b o hb z)]; exact z
    generalize upd (upd H d (exd d [(f1, v1)])) a (exo a C (some d)) = H1 at r1 s1 u1 ⊢
    refine ⟨v2, rfl, .ref a, rfl, a, C, rfl, T.o, n2, .inr ⟨d, _, r1, s1, (by simp), ?_⟩⟩
    have r2 : upd H1 d (exd d [(f2, v2), (f1, v1)]) a = some (exo a C (some d)) := by rw [upd_ne (Ne.symm nda)]; exact r1
    have s2 : upd H1 d (exd d [(f2, v2), (f1, v1)]) d = some (exd d [(f2, v2), (f1, v1)]) := upd_same
    have u2 : ∀ b o, b ≠ a → H b = some o → upd H1 d (exd d [(f2, v2), (f1, v1)]) b = some o := fun b o hb z => by rw [upd_ne (kp b o hb z)]; exact u1 b o hb z
    generalize upd H1 d (exd d [(f2, v2), (f1, v1)]) = H2 at r2 s2 u2 ⊢
    refine ⟨v3, rfl, .ref a, rfl, a, C, rfl, T.o, n3, .inr ⟨d, _, r2, s2, (by simp), ?_⟩⟩
    have r3 : upd H2 d (exd d [(f3, v3), (f2, v2), (f1, v1)]) a = some (exo a C (some d)) := by rw [upd_ne (Ne.symm nda)]; exact r2
    have s3 : upd H2 d (exd d [(f3, v3), (f2, v2), (f1, v1)]) d = some (exd d [(f3, v3), (f2, v2), (f1, v1)]) := upd_same
    have u3 : ∀ b o, b ≠ a → H b = some o → upd H2 d (exd d [(f3, v3), (f2, v2), (f1, v1)]) b = some o := fun b o hb z => by rw [upd_ne (kp b o hb z)]; exact u2 b o hb z
    generalize upd H2 d (exd d [(f3, v3), (f2, v2), (f1, v1)]) = H3 at r3 s3 u3 ⊢
    exact k H3 u3 (.inr ⟨d, r3, s3⟩)
theorem ok_init4 {f1 : Str} {b11 b12 b13 b14 : Pos} {f2 : Str} {b21 b22 b23 b24 : Pos} {f3 : Str} {b31 b32 b33 b34 : Pos} {f4 : Str} {b41 b42 b43 b44 : Pos} (T : ErC K C) (B : PaC K mg "PactError" Pa) (F : FunD K "__init__" q params [rowBase msg j a1 a2 a3 a4 a5 a6, rowFld f1 b11 b12 b13 b14, rowFld f2 b21 b22 b23 b24, rowFld f3 b31 b32 b33 b34, rowFld f4 b41 b42 b43 b44] scope [] [] fI fd) (S : FnScope ["self", f1, f2, f3, f4] ["self", f1, f2, f3, f4] scope)
    (ro : rowOk msg j a1 a2 a3 a4 a5) (lx : scope.names.lookup ("PactError" : Str) = some .globalImplicit) (ls : scope.names.lookup ("self" : Str) = some .local) (l1 : scope.names.lookup f1 = some .local) (n1 : PySem.W.findIn K (.ref C) f1 = some none) (d1 : (f1 == ("__debug__" : Str)) = false) (c1 : (f1 == ("__classdict__" : Str)) = false) (l2 : scope.names.lookup f2 = some .local) (n2 : PySem.W.findIn K (.ref C) f2 = some none) (d2 : (f2 == ("__debug__" : Str)) = false) (c2 : (f2 == ("__classdict__" : Str)) = false) (l3 : scope.names.lookup f3 = some .local) (n3 : PySem.W.findIn K (.ref C) f3 = some none) (d3 : (f3 == ("__debug__" : Str)) = false) (c3 : (f3 == ("__classdict__" : Str)) = false) (l4 : scope.names.lookup f4 = some .local) (n4 : PySem.W.findIn K (.ref C) f4 = some none) (d4 : (f4 == ("__debug__" : Str)) = false) (c4 : (f4 == ("__classdict__" : Str)) = false) : FnOk P w K mg base CX0 1 fI fd ["self", f1, f2, f3, f4] (spInit C [f1, f2, f3, f4]) := by
  refine FunD.ok F S (fun vs H Q E h => ?_) (fun cdv A outer s H vs Q E hr h => ?_)
  · obtain ⟨a, xs, rfl, hl, _⟩ := h
    rw [List.length_cons, hl]
    rfl
  · obtain ⟨a, xs, rfl, hl, ha, k⟩ := h
    obtain ⟨v1, v2, v3, v4, rfl⟩ : ∃ v1 v2 v3 v4 : V, xs = [v1, v2, v3, v4] := by
      match xs, hl with
      | [v1, v2, v3, v4], _ => exact ⟨_, _, _, _, rfl⟩
    obtain ⟨pl, hpl⟩ := ro (cxOf CX0 P w K mg base ["self", f1, f2, f3, f4] q scope fI cdv A outer s H E).env
    refine ⟨_, PSs.nox (pss_cons (ps_expr (pe_painit (pl := pl) B lx (pa_cons (pe_var (i := 0) rfl (.inl ls)) (pa_cons pe_str pa_nil)) hpl)) (pss_cons (ps_ost (pe_var (i := 0) rfl (.inl ls)) (pe_var (i := 1) rfl (.inl l1) d1 c1)) (pss_cons (ps_ost (pe_var (i := 0) rfl (.inl ls)) (pe_var (i := 2) rfl (.inl l2) d2 c2)) (pss_cons (ps_ost (pe_var (i := 0) rfl (.inl ls)) (pe_var (i := 3) rfl (.inl l3) d3 c3)) (pss_one (ps_ost (pe_var (i := 0) rfl (.inl ls)) (pe_var (i := 4) rfl (.inl l4) d4 c4))))))), ?_⟩
    refine ⟨.ref a, rfl, a, C, [.str msg], rfl, (by simp), T.o, ha, ?_⟩
    refine ⟨v1, rfl, .ref a, rfl, a, C, rfl, T.o, n1, .inl ⟨ha, fun d nd nda => ?_⟩⟩
    have kp : ∀ b o, b ≠ a → H b = some o → b ≠ d := fun b o _ z => ne_of_none z nd
    have r1 : upd (upd H d (exd d [(f1, v1)])) a (exo a C (some d)) a = some (exo a C (some d)) := upd_same
    have s1 : upd (upd H d (exd d [(f1, v1)])) a (exo a C (some d)) d = some (exd d [(f1, v1)]) := by rw [upd_ne nda, upd_same]
    have u1 : ∀ b o, b ≠ a → H b = some o → upd (upd H d (exd d [(f1, v1)])) a (exo a C (some d)) b = some o := fun b o hb z => by rw [upd_ne hb, upd_ne (kp b o hb z)]; exact z
    generalize upd (upd H d (exd d [(f1, v1)])) a (exo a C (some d)) = H1 at r1 s1 u1 ⊢
    refine ⟨v2, rfl, .ref a, rfl, a, C, rfl, T.o, n2, .inr ⟨d, _, r1, s1, (by simp), ?_⟩⟩
    have r2 : upd H1 d (exd d [(f2, v2), (f1, v1)]) a = some (exo a C (some d)) := by rw [upd_ne (Ne.symm nda)]; exact r1
    have s2 : upd H1 d (exd d [(f2, v2), (f1, v1)]) d = some (exd d [(f2, v2), (f1, v1)]) := upd_same
    have u2 : ∀ b o, b ≠ a → H b = some o → upd H1 d (exd d [(f2, v2), (f1, v1)]) b = some o := fun b o hb z => by rw [upd_ne (kp b o hb z)]; exact u1 b o hb z
    generalize upd H1 d (exd d [(f2, v2), (f1, v1)]) = H2 at r2 s2 u2 ⊢
    refine ⟨v3, rfl, .ref a, rfl, a, C, rfl, T.o, n3, .inr ⟨d, _, r2, s2, (by simp), ?_⟩⟩
    have r3 : upd H2 d (exd d [(f3, v3), (f2, v2), (f1, v1)]) a = some (exo a C (some d)) := by rw [upd_ne (Ne.symm nda)]; exact r2
    have s3 : upd H2 d (exd d [(f3, v3), (f2, v2), (f1, v1)]) d = some (exd d [(f3, v3), (f2, v2), (f1, v1)]) := upd_same
    have u3 : ∀ b o, b ≠ a → H b = some o → upd H2 d (exd d [(f3, v3), (f2, v2), (f1, v1)]) b = some o := fun b o hb z => by rw [upd_ne (kp b o hb z)]; exact u2 b o hb z
    generalize upd H2 d (exd d [(f3, v3), (f2, v2), (f1, v1)]) = H3 at r3 s3 u3 ⊢
    refine ⟨v4, rfl, .ref a, rfl, a, C, rfl, T.o, n4, .inr ⟨d, _, r3, s3, (by simp), ?_⟩⟩
    have r4 : upd H3 d (exd d [(f4, v4), (f3, v3), (f2, v2), (f1, v1)]) a = some (exo a C (some d)) := by rw [upd_ne (Ne.symm nda)]; exact r3
    have s4 : upd H3 d (exd d [(f4, v4), (f3, v3), (f2, v2), (f1, v1)]) d = some (exd d [(f4, v4), (f3, v3), (f2, v2), (f1, v1)]) := upd_same
    have u4 : ∀ b o, b ≠ a → H b = some o → upd H3 d (exd d [(f4, v4), (f3, v3), (f2, v2), (f1, v1)]) b = some o := fun b o hb z => by rw [upd_ne (kp b o hb z)]; exact u3 b o hb z
    generalize upd H3 d (exd d [(f4, v4), (f3, v3), (f2, v2), (f1, v1)]) = H4 at r4 s4 u4 ⊢
    exact k H4 u4 (.inr ⟨d, r4, s4⟩)
theorem ok_init5 {f1 : Str} {b11 b12 b13 b14 : Pos} {f2 : Str} {b21 b22 b23 b24 : Pos} {f3 : Str} {b31 b32 b33 b34 : Pos} {f4 : Str} {b41 b42 b43 b44 : Pos} {f5 : Str} {b51 b52 b53 b54 : Pos} (T : ErC K C) (B : PaC K mg "PactError" Pa) (F : FunD K "__init__" q params [rowBase msg j a1 a2 a3 a4 a5 a6, rowFld f1 b11 b12 b13 b14, rowFld f2 b21 b22 b23 b24, rowFld f3 b31 b32 b33 b34, rowFld f4 b41 b42 b43 b44, rowFld f5 b51 b52 b53 b54] scope [] [] fI fd) (S : FnScope ["self", f1, f2, f3, f4, f5] ["self", f1, f2, f3, f4, f5] scope)
    (ro : rowOk msg j a1 a2 a3 a4 a5) (lx : scope.names.lookup ("PactError" : Str) = some .globalImplicit) (ls : scope.names.lookup ("self" : Str) = some .local) (l1 : scope.names.lookup f1 = some .local) (n1 : PySem.W.findIn K (.ref C) f1 = some none) (d1 : (f1 == ("__debug__" : Str)) = false) (c1 : (f1 == ("__classdict__" : Str)) = false) (l2 : scope.names.lookup f2 = some .local) (n2 : PySem.W.findIn K (.ref C) f2 = some none) (d2 : (f2 == ("__debug__" : Str)) = false) (c2 : (f2 == ("__classdict__" : Str)) = false) (l3 : scope.names.lookup f3 = some .local) (n3 : PySem.W.findIn K (.ref C) f3 = some none) (d3 : (f3 == ("__debug__" : Str)) = false) (c3 : (f3 == ("__classdict__" : Str)) = false) (l4 : scope.names.lookup f4 = some .local) (n4 : PySem.W.findIn K (.ref C) f4 = some none) (d4 : (f4 == ("__debug__" : Str)) = false) (c4 : (f4 == ("__classdict__" : Str)) = false) (l5 : scope.names.lookup f5 = some .local) (n5 : PySem.W.findIn K (.ref C) f5 = some none) (d5 : (f5 == ("__debug__" : Str)) = false) (c5 : (f5 == ("__classdict__" : Str)) = false) : FnOk P w K mg base CX0 1 fI fd ["self", f1, f2, f3, f4, f5] (spInit C [f1, f2, f3, f4, f5]) := by
  refine FunD.ok F S (fun vs H Q E h => ?_) (fun cdv A outer s H vs Q E hr h => ?_)
  · obtain ⟨a, xs, rfl, hl, _⟩ := h
    rw [List.length_cons, hl]
    rfl
  · obtain ⟨a, xs, rfl, hl, ha, k⟩ := h
    obtain ⟨v1, v2, v3, v4, v5, rfl⟩ : ∃ v1 v2 v3 v4 v5 : V, xs = [v1, v2, v3, v4, v5] := by
      match xs, hl with
      | [v1, v2, v3, v4, v5], _ => exact ⟨_, _, _, _, _, rfl⟩
    obtain ⟨pl, hpl⟩ := ro (cxOf CX0 P w K mg base ["self", f1, f2, f3, f4, f5] q scope fI cdv A outer s H E).env
    refine ⟨_, PSs.nox (pss_cons (ps_expr (pe_painit (pl := pl) B lx (pa_cons (pe_var (i := 0) rfl (.inl ls)) (pa_cons pe_str pa_nil)) hpl)) (pss_cons (ps_ost (pe_var (i := 0) rfl (.inl ls)) (pe_var (i := 1) rfl (.inl l1) d1 c1)) (pss_cons (ps_ost (pe_var (i := 0) rfl (.inl ls)) (pe_var (i := 2) rfl (.inl l2) d2 c2)) (pss_cons (ps_ost (pe_var (i := 0) rfl (.inl ls)) (pe_var (i := 3) rfl (.inl l3) d3 c3)) (pss_cons (ps_ost (pe_var (i := 0) rfl (.inl ls)) (pe_var (i := 4) rfl (.inl l4) d4 c4)) (pss_one (ps_ost (pe_var (i := 0) rfl (.inl ls)) (pe_var (i := 5) rfl (.inl l5) d5 c5)))))))), ?_⟩
    refine ⟨.ref a, rfl, a, C, [.str msg], rfl, (by simp), T.o, ha, ?_⟩
    refine ⟨v1, rfl, .ref a, rfl, a, C, rfl, T.o, n1, .inl ⟨ha, fun d nd nda => ?_⟩⟩
    have kp : ∀ b o, b ≠ a → H b = some o → b ≠ d := fun b o _ z => ne_of_none z nd
    have r1 : upd (upd H d (exd d [(f1, v1)])) a (exo a C (some d)) a = some (exo a C (some d)) := upd_same
    have s1 : upd (upd H d (exd d [(f1, v1)])) a (exo a C (some d)) d = some (exd d [(f1, v1)]) := by rw [upd_ne nda, upd_same]
    have u1 : ∀ b o, b ≠ a → H b = some o → upd (upd H d (exd d [(f1, v1)])) a (exo a C (some d)) b = some o := fun b o hb z => by rw [upd_ne hb, upd_ne (kp b o hb z)]; exact z
    generalize upd (upd H d (exd d [(f1, v1)])) a (exo a C (some d)) = H1 at r1 s1 u1 ⊢
    refine ⟨v2, rfl, .ref a, rfl, a, C, rfl, T.o, n2, .inr ⟨d, _, r1, s1, (by simp), ?_⟩⟩
    have r2 : upd H1 d (exd d [(f2, v2), (f1, v1)]) a = some (exo a C (some d)) := by rw [upd_ne (Ne.symm nda)]; exact r1
    have s2 : upd H1 d (exd d [(f2, v2), (f1, v1)]) d = some (exd d [(f2, v2), (f1, v1)]) := upd_same
    have u2 : ∀ b o, b ≠ a → H b = some o → upd H1 d (exd d [(f2, v2), (f1, v1)]) b = some o := fun b o hb z => by rw [upd_ne (kp b o hb z)]; exact u1 b o hb z
    generalize upd H1 d (exd d [(f2, v2), (f1, v1)]) = H2 at r2 s2 u2 ⊢
    refine ⟨v3, rfl, .ref a, rfl, a, C, rfl, T.o, n3, .inr ⟨d, _, r2, s2, (by simp), ?_⟩⟩
    have r3 : upd H2 d (exd d [(f3, v3), (f2, v2), (f1, v1)]) a = some (exo a C (some d)) := by rw [upd_ne (Ne.symm nda)]; exact r2
    have s3 : upd H2 d (exd d [(f3, v3), (f2, v2), (f1, v1)]) d = some (exd d [(f3, v3), (f2, v2), (f1, v1)]) := upd_same
    have u3 : ∀ b o, b ≠ a → H b = some o → upd H2 d (exd d [(f3, v3), (f2, v2), (f1, v1)]) b = some o := fun b o hb z => by rw [upd_ne (kp b o hb z)]; exact u2 b o hb z
    generalize upd H2 d (exd d [(f3, v3), (f2, v2), (f1, v1)]) = H3 at r3 s3 u3 ⊢
    refine ⟨v4, rfl, .ref a, rfl, a, C, rfl, T.o, n4, .inr ⟨d, _, r3, s3, (by simp), ?_⟩⟩
    have r4 : upd H3 d (exd d [(f4, v4), (f3, v3), (f2, v2), (f1, v1)]) a = some (exo a C (some d)) := by rw [upd_ne (Ne.symm nda)]; exact r3
    have s4 : upd H3 d (exd d [(f4, v4), (f3, v3), (f2, v2), (f1, v1)]) d = some (exd d [(f4, v4), (f3, v3), (f2, v2), (f1, v1)]) := upd_same
    have u4 : ∀ b o, b ≠ a → H b = some o → upd H3 d (exd d [(f4, v4), (f3, v3), (f2, v2), (f1, v1)]) b = some o := fun b o hb z => by rw [upd_ne (kp b o hb z)]; exact u3 b o hb z
    generalize upd H3 d (exd d [(f4, v4), (f3, v3), (f2, v2), (f1, v1)]) = H4 at r4 s4 u4 ⊢
    refine ⟨v5, rfl, .ref a, rfl, a, C, rfl, T.o, n5, .inr ⟨d, _, r4, s4, (by simp), ?_⟩⟩
    have r5 : upd H4 d (exd d [(f5, v5), (f4, v4), (f3, v3), (f2, v2), (f1, v1)]) a = some (exo a C (some d)) := by rw [upd_ne (Ne.symm nda)]; exact r4
    have s5 : upd H4 d (exd d [(f5, v5), (f4, v4), (f3, v3), (f2, v2), (f1, v1)]) d = some (exd d [(f5, v5), (f4, v4), (f3, v3), (f2, v2), (f1, v1)]) := upd_same
    have u5 : ∀ b o, b ≠ a → H b = some o → upd H4 d (exd d [(f5, v5), (f4, v4), (f3, v3), (f2, v2), (f1, v1)]) b = some o := fun b o hb z => by rw [upd_ne (kp b o hb z)]; exact u4 b o hb z
    generalize upd H4 d (exd d [(f5, v5), (f4, v4), (f3, v3), (f2, v2), (f1, v1)]) = H5 at r5 s5 u5 ⊢
    exact k H5 u5 (.inr ⟨d, r5, s5⟩)
end
end EPL
-- part KA5
set_option maxHeartbeats 4000000
/-! 5: calls of such defs; repr of data. -/
namespace EPL
open PySem PySem.Spec PyProof.Rows L2 L2H
section
variable {P : Program} {w : World} {K : PySem.W.Frag} {mg : Str → Option Value} {base : Heap}
/-- the rule for a def that runs where nothing is handled -/
theorem fn_calm {x qual : Str} {params : Arguments} {body : List Stmt} {scope : Scope} {f : Addr} {fd : FuncData} {N ps : List Str} {k : Nat} {sp : Around → Sp} {dvs : List V} {kws : List (Str × V)} (F : FunD K x qual params body scope dvs kws f fd) (S : FnScope N ps scope)
    (len : ∀ A vs H Q E, sp A vs H Q E → vs.length = ps.length) (calm : ∀ A vs H Q E, sp A vs H Q E → A.handled = none)
    (hbody : ∀ (cdv : Value) (A : Around) (outer : List Env) (s : Shared) (H : Hp) (vs : List V) (Q : VK) (E : XK), Room k (A.deeper (envOfC qual scope s.heap.objs.size f cdv)) → sp A vs H Q E →
      ∃ t, PSs (cxOf CX0 P w K mg base N qual scope f cdv A outer s H E).nox body t ∧ t { nx := fun _ H' => Q .non H', rt := Q } (L2.start N vs) H) : FnN P w K mg base (k + 1) f fd ps sp := by
  obtain ⟨oc, od, dV, kV, doc, pm, an, cdv, ct, osl, rfl, lk, hcd, _, _⟩ := F.ex
  refine ⟨len, fun A outer s H args us vs Q E hr e0 hb r hsp => ?_⟩
  have hh := calm _ _ _ _ _ hsp
  have nl := len _ _ _ _ _ hsp
  have KX : K.In s.heap := e0.mod.kin.keeps fun b o e => (e0.bs b o e).1
  have lim : s.heap.NoLimit := e0.mod.nolimit.keeps fun b o e => (e0.bs b o e).1
  have kinds : ∀ y ∈ ps.zip us, scope.names.lookup y.1 = some .local ∨ (scope.names.lookup y.1 = some .cell ∧ ((cellsFrom (s.heap.objs.size + 1) scope.names []).lookup y.1).isSome = true) := fun y hy => by
    rcases S.par y.1 (List.of_mem_zip hy).1 with q | q
    · exact .inl q
    · exact .inr ⟨q, PySem.W.cellsFrom_some _ _ _ (.inl q)⟩
  refine codeAny_call_function hr.depth (KX _ _ lk) rfl S.co S.gen rfl (PySem.W.codeRec_of KX hcd) (hb _ _ _ _ ?_)
  refine wpAny_newFunctionEnv_cells S.kind kinds fun env he s1 hc => ?_
  subst he
  refine ⟨lim.keeps hc.toInCall.keep, codeAny_func ?_⟩
  have hr2 : RoomH k (A.deeper (envOfC qual scope s.heap.objs.size f cdv)) := hr.deeper _
  obtain ⟨t, ht, hq⟩ := hbody cdv A outer s H vs Q E ⟨hh, hr2.dp, hr2.un⟩ hsp
  have I : Inv (cxOf CX0 P w K mg base N qual scope f cdv A outer s H E) [] (L2.start N vs) H s1 := inv_start S hh e0 nl r hc
  refine wpAny_mono (ht.nox.run [] s1 (L2.start N vs) H _ I hq) (fun fl s' hs => ?_) fun e s' z => z
  have done : ∀ {σ' : St} {H' : Hp} {v : V} {u : Value}, Inv (cxOf CX0 P w K mg base N qual scope f cdv A outer s H E) [] σ' H' s' → RelV v u → Q v H' → CE outer P w H s Q u s' :=
    fun {σ' H' v u} J rv q => ⟨v, H', J.os, J.bare, J.base, J.hok, rv, q⟩
  cases fl with
  | next =>
    obtain ⟨σ', H', J, q⟩ := hs
    exact done (v := V.non) (u := Value.none) J rfl q
  | ret u =>
    obtain ⟨v, σ', H', J, rv, q⟩ := hs
    exact done J rv q
  | brk =>
    obtain ⟨_, _, _, q⟩ := hs
    exact q.elim
  | cont =>
    obtain ⟨_, _, _, q⟩ := hs
    exact q.elim
end
section
variable {X : Cx} {k : Nat} {f : Addr} {fd : FuncData} {ps : List Str} {sp : Around → Sp} {x : Str} {q pos : Pos} {e : Expr} {es : List Expr} {t : TA}
theorem run_fnN {pins : List (Addr × Obj)} {σ : L2.St} {H : Hp} {s : Shared} {Q : VK} {us : List Value} {vs : List V} (F : FnN X.prog X.w X.K X.mg X.base k f fd ps sp) (hr : RoomH k X.A) (hb : Binds X.K fd ps [])
    (I : Inv X pins σ H s) (r : Vals vs us) (h : sp X.A vs H Q E0) : wpAny (model X.prog X.w) X.A (call (.ref f) us) (EP X pins σ Q) X.xe s := by
  have hl : us.length = ps.length := by rw [← r.length]; exact F.len _ _ _ _ _ h
  have b := hb s us I.kIn (by rw [List.append_nil]; exact hl)
  rw [List.append_nil] at b
  refine wpAny_call (codeAny_mono (F.run X.A X.stack s H ⟨us, []⟩ us vs Q E0 hr I.env0 b r h) fun r' s' hq => ?_)
  cases r' with
  | error er => exact hq.elim
  | ok fl =>
    cases fl with
    | ret u => exact I.after hq
    | next => exact hq.elim
    | brk => exact hq.elim
    | cont => exact hq.elim
/-- f(e, ..) -/
def tCallN (sp : Sp) (t : TA) : TE := fun σ H Q => t σ H fun vs H1 => sp vs H1 Q E0
theorem pe_callN (F : FnN X.prog X.w X.K X.mg X.base k f fd ps sp) (hr : RoomH k X.A) (hg : Gl X x) (hm : X.mg x = some (.ref f)) (hk : PySem.W.keepIn X.K (.ref f) = true) (hb : Binds X.K fd ps []) (ha : PA X (e :: es) t)
    (hdb : (x == ("__debug__" : Str)) = false := by decide) (he : starEach (e :: es) X.env = (false, eval e X.env) :: starEach es X.env := by rfl) (hpl : (backTo pos (starEach es X.env)).any (·.1) = false := by rfl) :
    PE X (.Call (.Name x q) (e :: es) [] pos) (tCallN (sp X.A) t) := by
  refine ⟨fun pins s σ H Q I h => ?_⟩
  refine wpAny_Call_Name_kw (ld_glob I hg hm ?_ hdb)
  refine PySem.W.callWith_K (h₀ := X.base) I.ok.mod.kin hk (thn (ha.run pos pins s σ H _ I h) fun us s1 ⟨vs, H1, I1, r, z⟩ => ⟨I1.kIn, ?_⟩) he hpl
  exact run_fnN F hr hb I1 r z
end
/-! ### data, dicts with text keys among them -/
mutual
inductive Dq (K : PySem.W.Frag) (H : Hp) : V → PyData → Prop
  | non : Dq K H .non .none
  | bl (b : Bool) : Dq K H (.bl b) (.bool b)
  | int (i : Int) : Dq K H (.int i) (.int i)
  | str (x : Str) : Dq K H (.str x) (.str x)
  | lst {a : Addr} {xs : List V} {ds : List PyData} : SqL K H a xs → DqAll K H xs ds → Dq K H (.ref a) (.list ds)
  | tup {a : Addr} {xs : List V} {ds : List PyData} : SqT K H a xs → DqAll K H xs ds → Dq K H (.ref a) (.tuple ds)
  | dct {a : Addr} {ks : List Str} {xs : List V} {ds : List PyData} : H a = some (.dK ((ks.map Sum.inr).zip xs)) → ks.length = xs.length → DqAll K H xs ds → Dq K H (.ref a) (.dict ((ks.map PyData.str).zip ds))
inductive DqAll (K : PySem.W.Frag) (H : Hp) : List V → List PyData → Prop
  | nil : DqAll K H [] []
  | cons {v : V} {vs : List V} {d : PyData} {ds : List PyData} : Dq K H v d → DqAll K H vs ds → DqAll K H (v :: vs) (d :: ds)
end
/-- data by its shape alone: how the abstract heap may grow -/
theorem DqAll.length {K : PySem.W.Frag} {H : Hp} : ∀ {vs : List V} {ds : List PyData}, DqAll K H vs ds → vs.length = ds.length
  | _, _, .nil => rfl
  | _, _, .cons _ t => congrArg Nat.succ t.length
theorem sqt_same {K : PySem.W.Frag} {H H' : Hp} {a : Addr} {xs : List V} (e : Same H H') (h : SqT K H a xs) : SqT K H' a xs := by
  rcases h with (h | ⟨o, h⟩) | h
  · exact .inl (.inl (e _ _ h))
  · exact .inl (.inr ⟨o, e _ _ h⟩)
  · exact .inr h
mutual
theorem Dq.same {K : PySem.W.Frag} {H H' : Hp} (e : Same H H') : ∀ {v : V} {d : PyData}, Dq K H v d → Dq K H' v d
  | _, _, .non => .non
  | _, _, .bl b => .bl b
  | _, _, .int i => .int i
  | _, _, .str x => .str x
  | _, _, .lst h t => .lst (e.seq h) (DqAll.same e t)
  | _, _, .tup h t => .tup (sqt_same e h) (DqAll.same e t)
  | _, _, .dct h l t => .dct (e _ _ h) l (DqAll.same e t)
theorem DqAll.same {K : PySem.W.Frag} {H H' : Hp} (e : Same H H') : ∀ {vs : List V} {ds : List PyData}, DqAll K H vs ds → DqAll K H' vs ds
  | _, _, .nil => .nil
  | _, _, .cons h t => .cons (Dq.same e h) (DqAll.same e t)
end
theorem dqall_append {K : PySem.W.Frag} {H : Hp} : ∀ {vs ws : List V} {ds es : List PyData}, DqAll K H vs ds → DqAll K H ws es → DqAll K H (vs ++ ws) (ds ++ es)
  | _, _, _, _, .nil, t => t
  | _, _, _, _, .cons h t, u => .cons h (dqall_append t u)
section
variable {X : Cx} {pins : List (Addr × Obj)} {σ : L2.St} {H : Hp} {s : Shared}
/-- what is known of sys.modules' object: the written part holds it, it is no list -/
def SysK (K : PySem.W.Frag) : Prop := ∃ o, K.lookup sysModules = some o ∧ o.cls ≠ .type "list"
def encK : Key → PyData
  | .inl i => .int i
  | .inr x => .str x
theorem encK_reads {h : Heap} (k : Key) (key : Value) (e : (mixKind X.prog X.w).is k key = true) : Reads h key (encK k) [] := by
  rcases keyIs_shape e with ⟨i, t, rfl, rfl⟩ | ⟨x, t, rfl, rfl⟩
  · exact Reads.int i t
  · exact Reads.str x t
theorem nsys (S : SysK X.K) (I : Inv X pins σ H s) {a : Addr} {o : HO} (h : H a = some o) : a ≠ sysModules := fun z => by
  obtain ⟨ob, hk, _⟩ := S
  have q := (I.bs _ _ (I.ok.mod.kin _ _ hk)).2
  rw [← z, h] at q
  cases q
theorem nsys_lst (S : SysK X.K) (I : Inv X pins σ H s) {a : Addr} {xs : List V} (h : SqL X.K H a xs) : a ≠ sysModules := by
  rcases h with (h | ⟨o, h⟩) | ⟨o, its, n, hk, hc, _⟩
  · exact nsys S I h
  · exact nsys S I h
  · obtain ⟨ob, hk2, hc2⟩ := S
    intro z
    rw [z, hk2] at hk
    cases hk
    exact hc2 hc
mutual
theorem Dq.reads (S : SysK X.K) (I : Inv X pins σ H s) : ∀ {v : V} {d : PyData} {u : Value}, Dq X.K H v d → RelV v u → ∃ as, Reads s.heap u d as ∧ sysModules ∉ as
  | _, _, _, .non, r => by
    cases r
    exact ⟨_, Reads.none, by simp⟩
  | _, _, _, .bl b, r => by
    cases r
    exact ⟨_, Reads.bool b, by simp⟩
  | _, _, _, .int i, r => by
    obtain ⟨t, rfl⟩ := r
    exact ⟨_, Reads.int i t, by simp⟩
  | _, _, _, .str x, r => by
    obtain ⟨t, rfl⟩ := r
    exact ⟨_, Reads.str x t, by simp⟩
  | _, _, _, .lst h t, r => by
    cases r
    obtain ⟨its, rv, ⟨o, n, ho, hc, _, hd⟩, _⟩ := I.list h
    obtain ⟨as, hr, na⟩ := DqAll.reads S I t rv
    exact ⟨_, Reads.list ho hc hd hr, fun hm => (List.mem_cons.mp hm).elim (fun z => nsys_lst S I h z.symm) na⟩
  | _, _, _, .tup h t, r => by
    cases r
    obtain ⟨its, rv, ⟨o, ho, hc, n, hd⟩, _⟩ := I.tuple h
    obtain ⟨as, hr, na⟩ := DqAll.reads S I t rv
    exact ⟨_, Reads.tuple ho hc hd hr, na⟩
  | _, _, _, .dct (ks := ks) h hl t, r => by
    cases r
    obtain ⟨_, hs, vs, kv, dd⟩ := I.hok _ _ h
    obtain ⟨as, hr, na⟩ := DqAll.pairs S I ks t hl kv
    refine ⟨_, PyProof.V.reads_dictOf (enc := encK) (fun k key e => encK_reads k key e) dd hr, fun hm => (List.mem_cons.mp hm).elim (fun z => nsys S I h z.symm) na⟩
theorem DqAll.reads (S : SysK X.K) (I : Inv X pins σ H s) : ∀ {vs : List V} {ds : List PyData} {us : List Value}, DqAll X.K H vs ds → Vals vs us → ∃ as, ReadsAll s.heap us ds as ∧ sysModules ∉ as
  | _, _, _, .nil, r => by
    cases r
    exact ⟨_, ReadsAll.nil, by simp⟩
  | _, _, _, .cons h t, r => by
    cases r with
    | cons r1 r2 =>
      obtain ⟨as, q1, n1⟩ := Dq.reads S I h r1
      obtain ⟨bs, q2, n2⟩ := DqAll.reads S I t r2
      exact ⟨_, ReadsAll.cons q1 q2, fun hm => (List.mem_append.mp hm).elim n1 n2⟩
theorem DqAll.pairs (S : SysK X.K) (I : Inv X pins σ H s) : ∀ (ks : List Str) {xs : List V} {ds : List PyData} {kvs : List (Key × Value)}, DqAll X.K H xs ds → ks.length = xs.length → KV ((ks.map Sum.inr).zip xs) kvs →
    ∃ as, PyProof.V.PairsRead s.heap encK kvs ((ks.map PyData.str).zip ds) as ∧ sysModules ∉ as
  | [], _, _, _, .nil, _, r => by
    cases r
    exact ⟨_, PyProof.V.PairsRead.nil, by simp⟩
  | _ :: _, _, _, _, .nil, l, _ => by cases l
  | [], _, _, _, .cons _ _, l, _ => by cases l
  | k :: ks, _, _, _, .cons h t, l, r => by
    cases r with
    | @cons _ q _ _ r1 r2 =>
      obtain ⟨k1, u⟩ := q
      obtain ⟨e1, e2⟩ := r1
      have e1' : Sum.inr k = k1 := e1
      subst e1'
      obtain ⟨as, q1, n1⟩ := Dq.reads S I h e2
      obtain ⟨bs, q2, n2⟩ := DqAll.pairs S I ks t (Nat.succ.inj l) r2
      exact ⟨_, PyProof.V.PairsRead.cons (enc := encK) (k := Sum.inr k) q1 q2, fun hm => (List.mem_append.mp hm).elim n1 n2⟩
end
end
/-- repr(x), x data that is an object, or a small value -/
def rRep (K : PySem.W.Frag) : List V → Hp → VK → Prop := fun xs H Q => ∃ v d, xs = [v] ∧ Dq K H v d ∧ d.showable = true ∧ d.shown.length ≤ sizeLine ∧ d.depth ≤ 32 ∧ Q (.str d.shown) H
section
variable {X : Cx}
theorem call_rep (S : SysK X.K) (hg : X.A.guards = some []) (hu : X.A.units + 64 < cLine) : CallR X (.builtin "repr") (rRep X.K) := by
  intro pins s σ H xs us Q I r h
  obtain ⟨v, d, rfl, hd, hs, hz, hp, q⟩ := h
  cases r with
  | cons r1 rr =>
    cases rr
    rename_i u
    have fin : ∀ h' t tk, (∀ b o, s.heap.get? b = some o → h'.get? b = some o) → EP X pins σ Q (.str d.shown t) { s with heap := h', toks := tk } :=
      fun h' t tk k => ⟨.str d.shown, H, I.kept (t' := tk) k, ⟨_, rfl⟩, q⟩
    cases hd with
    | lst h t =>
      cases r1
      obtain ⟨as, hr, na⟩ := Dq.reads (u := .ref _) S I (.lst h t) rfl
      exact repr_of_reads' hr hs (fun _ => na) hg (by omega) (fun _ _ e => e) fin hz
    | tup h t =>
      cases r1
      obtain ⟨as, hr, na⟩ := Dq.reads (u := .ref _) S I (.tup h t) rfl
      exact repr_of_reads' hr hs (fun _ => na) hg (by omega) (fun _ _ e => e) fin hz
    | dct h l t =>
      cases r1
      obtain ⟨as, hr, na⟩ := Dq.reads (u := .ref _) S I (.dct h l t) rfl
      exact repr_of_reads' hr hs (fun _ => na) hg (by omega) (fun _ _ e => e) fin hz
    | non =>
      cases r1
      exact PySem.P.repr_of_none (fin s.heap _ _ fun _ _ e => e)
    | bl b =>
      cases r1
      exact PySem.P.repr_of_bool (fin s.heap _ _ fun _ _ e => e)
    | int i =>
      obtain ⟨t, rfl⟩ := r1
      exact PySem.P.repr_of_int (of_decide_eq_true (by simpa only [PyData.showable] using hs)) (fin s.heap _ _ fun _ _ e => e)
    | str x =>
      obtain ⟨t, rfl⟩ := r1
      exact PySem.P.repr_of_str (fin s.heap _ _ fun _ _ e => e) hz
end
end EPL
-- part KA6
set_option maxHeartbeats 4000000
/-! 6: [e for x in range(n) if t], also where an exception is handled. -/
namespace EPL
open PySem PySem.Spec PyProof.Rows L2 L2H
/-- nothing is handled, or an error that is known to the object, without a context -/
def Quiet (A : Around) (H : Hp) : Prop := A.handled = none ∨ ∃ a oe u vs, A.handled = some (.ref a) ∧ H a = some (.frz oe u) ∧ oe.data = .fields vs ∧ vs[2]? = some .none
theorem Quiet.same {A : Around} {H H' : Hp} (q : Quiet A H) (e : Same H H') : Quiet A H' := by
  rcases q with h | ⟨a, oe, u, vs, h1, h2, h3⟩
  · exact .inl h
  · exact .inr ⟨a, oe, u, vs, h1, e _ _ h2, h3⟩
section
variable {X : Cx} {pins : List (Addr × Obj)} {σ : L2.St} {H : Hp} {s : Shared} {E : Value → Shared → Prop}
/-- range(n), made and asked for its iterator -/
theorem range_go {n : Nat} {t : Tok} {R : Value → Shared → Prop} (I : Inv X pins σ H s) (hn : n < 2 ^ 62)
    (k : ∀ it s', Inv X pins σ H s' → IsRangeIter s'.heap it 0 n 1 → FpOk X pins H it → it < s'.heap.objs.size → R (.ref it) s') :
    wpAny (model X.prog X.w) X.A (call (.type "range") [.int n t]) (fun v s1 => wpAny (model X.prog X.w) X.A (pyIter v) R E s1) E s := by
  refine call_range_1 ?_
  have b1 : -(2 ^ 62) ≤ (0 : Int) := by omega
  have b2 : (0 : Int) < 2 ^ 62 := by omega
  have b3 : ((n : Nat) : Int) < 2 ^ 62 := by omega
  have b4 : -(2 ^ 62) ≤ ((n : Nat) : Int) := by omega
  refine wpAny_pyIter_range (IsRange.new ..) (small_one b1 b2 b4 b3) ?_
  have I1 := I.kept (h' := s.heap.push { cls := .type "range", data := .fields #[.int 0 s.toks, .int n t, .int 1 (s.toks + 1)] }) (t' := s.toks + 1 + 1) fun b o e => Heap.get?_push_of_some _ e
  have I2 := I1.kept (h' := (s.heap.push { cls := .type "range", data := .fields #[.int 0 s.toks, .int n t, .int 1 (s.toks + 1)] }).push { cls := .type "range_iterator", data := .fields #[rawInt 0, rawInt (Builtin.Range.rangeSize 0 n 1), rawInt 1] }) (t' := s.toks + 1 + 1) fun b o e => Heap.get?_push_of_some _ e
  refine k _ _ I2 ?_ (I1.fpOk (Nat.le_refl _) (I1.hok.fresh (Nat.le_refl _))) ?_
  · have e2 : Builtin.Range.rangeSize 0 n 1 = (n : Int) := by
      rw [rangeSize_one]
      split <;> omega
    rw [e2]
    exact Heap.get?_push_size _ rfl
  · exact Heap.lt_size (Heap.get?_push_size _ rfl)
/-- the iterator has run out -/
theorem range_out {it : Addr} {x left : Int} {Q : Option Value → Shared → Prop} (q : Quiet X.A H) (I : Inv X pins σ H s) (hf : FpOk X pins H it) (hit : IsRangeIter s.heap it x left 1) (hl : left ≤ 0)
    (k : ∀ s', Inv X pins σ H s' → Q none s') : wpAny (model X.prog X.w) X.A (pyNext (.ref it)) Q E s := by
  obtain ⟨f0, f1, f2, f3, f4, f5⟩ := hf
  rcases q with h | ⟨a, oe, u, vs, h1, h2, h3, h4⟩
  · exact wpAny_pyNext_range_end h hit hl fun h' eb => k _ (I.turned (t' := s.toks) (fun b o hb e => eb b o hb e) f0 f1 f3 f4 f5)
  · obtain ⟨ho, _⟩ := I.hok a _ h2
    exact HotX.pyNext_range_end_hot (x1 := a) ⟨h1, oe, vs, ho, h3, h4⟩ hit hl fun h' eb => k _ (I.kept (t' := s.toks) eb)
/-- the comprehension's reading: W i what holds ahead of turn i -/
def tLcR (A : Around) (g : TG) (tt : TT) (te : TE) (own : List Nat) (ta : TA) : TE := fun σ H Q => ta σ H fun vs H1 => ∃ n : Nat, vs = [.int n] ∧ n < 2 ^ 62 ∧ ∀ D, H1 D = none → ∃ W : Nat → Hp → Prop, W 0 (upd H1 D (.lst [])) ∧ (∀ i H2, W i H2 → Quiet A H2) ∧
  (∀ i H2, i < n → W i H2 → g (.int i) (wipe σ own) H2 fun σ2 H3 => wipe σ2 own = wipe σ own ∧ tt σ2 H3 fun b H4 =>
    if b = true then te σ2 H4 fun y H5 => ∃ acc, H5 D = some (.lst acc) ∧ acc.length < sizeLine ∧ W (i + 1) (upd H5 D (.lst (acc ++ [y]))) else W (i + 1) H4) ∧
  ∀ H2, W n H2 → Q (.ref D) H2
theorem pe_lcR {elt tg a : Expr} {ifs : List Expr} {scope : Scope} {own : List (Str × Nat)} {pos pos' p : Pos} {g : TG} {tt : TT} {te : TE} {ta : TA} (hN : X.N.Nodup) (hgr : Gl X "range") (hmr : X.mg "range" = none) (ha : PA X [a] ta) (ok : BlkOk X.N X.env.scope scope own)
    (hg : ∀ (s : Shared) (H : Hp) (C : Addr) (cl : List (Str × Addr)) (fp : List Addr), PG (X.blk s H scope (compEnvC scope cl C X.env) fp) tg g)
    (ht : ∀ (s : Shared) (H : Hp) (C : Addr) (cl : List (Str × Addr)) (fp : List Addr), PTs (X.blk s H scope (compEnvC scope cl C X.env) fp) ifs tt)
    (he : ∀ (s : Shared) (H : Hp) (C : Addr) (cl : List (Str × Addr)) (fp : List Addr), PE (X.blk s H scope (compEnvC scope cl C X.env) fp) elt te)
    (hst : starEach [a] X.env = [(false, eval a X.env)] := by rfl) (hs : ∀ x, foldedSetIterable (.Call (.Name "range" p) [a] [] pos') X.env x = pure x := by intro _; rfl) :
    PE X (.ListComp elt [⟨tg, .Call (.Name "range" p) [a] [] pos', ifs, 0⟩] scope pos) (tLcR X.A g tt te (own.map (·.2)) ta) := by
  refine ⟨fun pins s σ H Q I h => ?_⟩
  rw [eval_ListComp]
  have hfree : ∀ y ∈ scope.names, y.2 = .free → ∃ c, X.env.cells.lookup y.1 = some c := fun y hy e => (ok.free y hy e).elim (fun k => I.ok.has _ (.inl k)) (fun k => I.ok.has _ (.inr k))
  refine wpAny_comprehension_free (use := none) rfl hs (closure_ok hfree) ok.kind (fun y hy e => by rw [ok.uniq y hy, e]) ?_
  refine Call_ (ld_blt I hgr hmr boot_range (PyProof.Rows.callWith_type1 (thn (ha.run _ pins s σ H _ I h) fun us s1 ⟨vs, H1, I1, r1, n, ev, hn, q⟩ => ?_) hst rfl))
  subst ev
  cases r1 with
  | cons r rr =>
    cases rr
    obtain ⟨t, rfl⟩ := r
    refine range_go I1 hn fun it s2 I2 st2 f2 hlt => ?_
    refine wpAny_newObj_type (newEnv_comp ?_) (by show 0 ≤ sizeLine; decide)
    -- the new list, at D
    have nD : H1 s2.heap.objs.size = none := I2.hok.fresh (Nat.le_refl _)
    obtain ⟨W, w0, wq, wt, wd⟩ := q _ nD
    have I3 : Inv X pins σ (upd H1 s2.heap.objs.size (.lst [])) { s2 with heap := s2.heap.push { cls := .type "list", data := .seq ([] : List Value).toArray } } :=
      I2.laid (t' := s2.toks) (fun b o e => Heap.get?_push_of_some _ e) (Nat.le_refl _) ⟨Nat.zero_le _, [], 0, .nil, Heap.get?_push_size _ rfl⟩
    have st3 : IsRangeIter (s2.heap.push { cls := .type "list", data := .seq ([] : List Value).toArray }) it 0 n 1 := Heap.get?_push_of_some _ st2
    have f3 : FpOk X pins (upd H1 s2.heap.objs.size (.lst [])) it := ⟨by rw [upd_ne (Nat.ne_of_lt hlt)]; exact f2.1, f2.2⟩
    have lt3 : it < (s2.heap.push { cls := .type "list", data := .seq ([] : List Value).toArray }).objs.size := by
      rw [Heap.size_push]
      exact Nat.lt_succ_of_lt hlt
    generalize hs3 : ({ s2 with heap := s2.heap.push { cls := .type "list", data := .seq ([] : List Value).toArray } } : Shared) = s3 at I3
    have h3 : s3.heap = s2.heap.push { cls := .type "list", data := .seq ([] : List Value).toArray } := by rw [← hs3]
    rw [← h3] at st3 lt3
    generalize hD : s2.heap.objs.size = D at *
    generalize hH3 : upd H1 D (.lst []) = H3 at *
    have I4 := block_start (fp := [it]) I3 ok hN fun b hb => by
      have e : b = it := by simpa using hb
      rw [e]
      exact ⟨f3, lt3⟩
    have pg := hg s3 H3 s3.heap.objs.size (cellsFrom (s3.heap.objs.size + 1) scope.names (cloFrom X.env.cells scope.names [])) [it]
    have pt := ht s3 H3 s3.heap.objs.size (cellsFrom (s3.heap.objs.size + 1) scope.names (cloFrom X.env.cells scope.names [])) [it]
    have pe := he s3 H3 s3.heap.objs.size (cellsFrom (s3.heap.objs.size + 1) scope.names (cloFrom X.env.cells scope.names [])) [it]
    show codeAny _ _ (.compStart (.ListComp elt [⟨tg, .Call (.Name "range" p) [a] [] pos', ifs, 0⟩] scope pos) 0 (.ref it) (.ref D) (compEnvC scope (cellsFrom (s3.heap.objs.size + 1) scope.names (cloFrom X.env.cells scope.names [])) s3.heap.objs.size X.env))
      (compPost (model X.prog X.w) X.A X.xe none (EP X pins σ Q) (.ref D) s3.heap.objs.size) { s3 with heap := pushCells (s3.heap.push { cls := .type "dict", data := .dict #[] }) scope.names }
    generalize hce : compEnvC scope (cellsFrom (s3.heap.objs.size + 1) scope.names (cloFrom X.env.cells scope.names [])) s3.heap.objs.size X.env = ce at I4 pg pt pe ⊢
    have cL : ce.locals = s3.heap.objs.size := by
      rw [← hce]
      rfl
    have st4 : IsRangeIter (pushCells (s3.heap.push { cls := .type "dict", data := .dict #[] }) scope.names) it 0 n 1 := pushCells_keeps _ _ _ _ (Heap.get?_push_of_some _ st3)
    generalize hs4 : ({ s3 with heap := pushCells (s3.heap.push { cls := .type "dict", data := .dict #[] }) scope.names } : Shared) = s4 at I4 ⊢
    have h4 : s4.heap = pushCells (s3.heap.push { cls := .type "dict", data := .dict #[] }) scope.names := by rw [← hs4]
    rw [← h4] at st4
    have fp : ∀ {σ' : L2.St} {H' : Hp} {s' : Shared}, Inv (X.blk s3 H3 scope ce [it]) [] σ' H' s' → H' it = none → FpOk (X.blk s3 H3 scope ce [it]) [] H' it := fun {σ' H' s'} J hn2 => by
      have m : it ∈ (X.blk s3 H3 scope ce [it]).ex := List.mem_cons_self
      exact ⟨hn2, (J.ok.exf it m).1, J.ok.exfs it m, .inl m, fun x c e => (J.ok.exf it m).2 x c e, fun q hq => absurd hq (by simp)⟩
    have loop : codeAny (model X.prog X.w) X.A (.compLoop (.ListComp elt [⟨tg, .Call (.Name "range" p) [a] [] pos', ifs, 0⟩] scope pos) 0 (.ref it) (.ref D) ce) (compPost (model X.prog X.w) X.A X.xe none (EP X pins σ Q) (.ref D) s3.heap.objs.size) s4 := by
      refine compLoop_any (fun m s' => ∃ i H', m + i = n ∧ Inv (X.blk s3 H3 scope ce [it]) [] (wipe σ (own.map (·.2))) H' s' ∧ IsRangeIter s'.heap it (i : Nat) ((n : Int) - (i : Nat)) 1 ∧ H' it = none ∧ W i H') ?_ n
        ⟨0, H3, rfl, I4, (by simpa using st4), f3.1, w0⟩
      rintro m s5 ⟨i, H5, hm, I5, st5, n5, w5⟩
      by_cases hlast : i < n
      · -- one more turn
        refine wpAny_pyNext_range_item st5 (by omega) fun h' st' sb => ?_
        have F5 := fp I5 n5
        obtain ⟨f0, f1, f2', f3', f4', f5'⟩ := F5
        have I6 : Inv (X.blk s3 H3 scope ce [it]) [] (wipe σ (own.map (·.2))) H5 { s5 with heap := h', toks := s5.toks + 1 } := I5.turned (t' := s5.toks + 1) (fun b o hb e => (sb.2 b hb).trans e) f0 f1 f3' f4' f5'
        have st6 : IsRangeIter h' it ((i + 1 : Nat) : Int) ((n : Int) - ((i + 1 : Nat) : Int)) 1 := by
          have e1 : ((i : Nat) : Int) + 1 = ((i + 1 : Nat) : Int) := by omega
          have e2 : (n : Int) - ((i : Nat) : Int) - 1 = (n : Int) - ((i + 1 : Nat) : Int) := by omega
          rw [← e2, ← e1]
          exact st'
        refine go_of (s := { s5 with heap := h', toks := s5.toks + 1 }) (n := "range_iterator") st6 rfl rfl (by decide) ?_
        have I7 := I6.pinned (fp := [it]) (fun b hb => by
          have e : b = it := by simpa using hb
          rw [e]
          exact fp I6 n5) fun b hb => by
          have e : b = it := by simpa using hb
          rw [e]
          exact ⟨_, st6, fun v z => by cases z⟩
        refine thnF (pg.run _ _ _ H5 (.int (i : Nat)) _ _ I7 ⟨_, rfl⟩ (wt i H5 hlast w5)) fun _ s8 ⟨σ8, H8, I8, hw8, q8⟩ => ?_
        refine thnF (pt.run _ s8 σ8 H8 _ I8 q8) fun b s9 ⟨H9, I9, q9⟩ => ?_
        have fin : ∀ {s' : Shared} {H' : Hp}, Inv (X.blk s3 H3 scope ce [it]) ([] ++ pinsAt [it] h') σ8 H' s' → W (i + 1) H' →
            ∃ m', m' < m ∧ ∃ i H', m' + i = n ∧ Inv (X.blk s3 H3 scope ce [it]) [] (wipe σ (own.map (·.2))) H' s' ∧ IsRangeIter s'.heap it (i : Nat) ((n : Int) - (i : Nat)) 1 ∧ H' it = none ∧ W i H' := fun {s' H'} J w' => by
          have pn := J.pin (it, _) (List.mem_append_right _ (List.mem_append_right _ (mem_pinsAt (fp := [it]) List.mem_cons_self st6)))
          have hl : (wipe σ (own.map (·.2))).length = σ8.length := by rw [← hw8, wipe_length]
          refine ⟨m - 1, by omega, i + 1, H', by omega, (J.unpinned (pins := [])).weak hl (fun j v e => ?_), pn.1, pn.2.1, w'⟩
          rw [← hw8] at e
          exact (wipe_some e).1
        cases b with
        | false =>
          simp only [Bool.false_eq_true, if_false] at q9 ⊢
          exact fin I9 q9
        | true =>
          simp only [if_true] at q9 ⊢
          refine thnF (pe.run _ s9 σ8 H9 _ I9 q9) fun z s10 ⟨yv, H10, I10, r10, acc, hD10, hz10, nx⟩ => ?_
          exact app_ok (X := X.blk s3 H3 scope ce [it]) I10 hD10 hz10 r10 fun s11 I11 => fin I11 nx
      · -- the end
        have hi : i = n := by omega
        subst hi
        refine range_out (X := X.blk s3 H3 scope ce [it]) (wq i H5 w5) I5 (fp I5 n5) st5 (by omega) fun s6 I6 => ?_
        have I7 : Inv X pins σ H5 s6 := I3.call' (ch := [it]) I6.os I6.base I6.hok I6.bare fun b hb => by
          have e : b = it := by simpa using hb
          rw [e]
          exact ⟨f3.2.2.2.1, f3.2.1, f3.2.2.2.2.1, f3.2.2.2.2.2⟩
        have nC : H5 s3.heap.objs.size = none := by
          have z : H5 ce.locals = none := I6.free
          rw [cL] at z
          exact z
        obtain ⟨mm, hn6, _⟩ := I6.loc
        have hn6 : s6.heap.Ns ce.locals mm := hn6
        rw [cL] at hn6
        obtain ⟨g0, g1, g2, g3, g4, g5⟩ : FpOk X pins H5 s3.heap.objs.size := I3.fpOk (Nat.le_refl _) nC
        exact ⟨mm, hn6, fun h'' sb => ⟨.ref D, H5, I7.turned (t' := s6.toks) (fun b o hb e => (sb.2 b hb).trans e) g0 g1 g3 g4 g5, rfl, wd H5 w5⟩⟩
    exact codeAny_compStart_list loop (wpAny_pyIter_rangeiter st4 loop)
end
end EPL
-- part KB0
set_option maxHeartbeats 4000000
/-! B0: what few looks at an error class give. -/
namespace EPL
open PySem PySem.Spec PyProof.Rows L2 L2H
theorem nsFree_ok {K : PySem.W.Frag} {N : Addr} {bad : List Str} {n : Str} (h : nsFree K N bad = true) (hn : n ∈ bad) : PySem.W.nsIn K N n = some none := by
  unfold nsFree at h
  unfold PySem.W.nsIn
  cases e : K.lookup N with
  | none =>
    rw [e] at h
    cases h
  | some o =>
    obtain ⟨oc, od, dt, osl⟩ := o
    rw [e] at h
    cases dt with
    | dict es ep =>
      have h2 : (es.toList.all fun e => match e.key with
        | .str x _ => !(bad.contains x)
        | _ => false) = true := h
      have h3 := List.all_eq_true.mp h2
      have f1 : es.toList.find? (·.key.isStr n) = none := by
        rw [List.find?_eq_none]
        intro x hx q
        have h4 := h3 x hx
        cases k : x.key with
        | str y t =>
          rw [k] at h4 q
          have q2 : (y == n) = true := q
          rw [beq_iff_eq] at q2
          subst q2
          have h5 : (!(bad.contains y)) = true := h4
          rw [List.contains_iff_mem.mpr hn] at h5
          cases h5
        | _ =>
          rw [k] at h4
          cases h4
      have f2 : es.toList.any (·.refKey) = false := by
        rw [List.any_eq_false]
        intro x hx q
        have h4 := h3 x hx
        unfold DictEntry.refKey at q
        cases k : x.key with
        | str y t =>
          rw [k] at q
          cases q
        | _ =>
          rw [k] at h4
          cases h4
      show (match es.toList.find? (·.key.isStr n) with
        | some e => some (some e.val)
        | none => if es.toList.any (·.refKey) then none else some none) = _
      rw [f1, f2]
      rfl
    | _ => cases h
section
variable {K : PySem.W.Frag} {bad : List Str} {Pa C D : Addr}
theorem find_ref {a : Addr} {n : Str} : PySem.W.findIn K (.ref a) n = (match K.lookup a with
  | some ⟨_, _, .cls cd, _⟩ => PySem.W.alongIn K n cd.mro
  | _ => none) := rfl
theorem own_ref {a : Addr} {n : Str} : PySem.W.ownIn K n (.ref a) = (match K.lookup a with
  | some ⟨_, _, .cls cd, _⟩ => PySem.W.nsIn K cd.ns n
  | _ => none) := rfl
theorem typ_ref {a : Addr} : PySem.W.typeIn K (.ref a) = (K.lookup a).map (·.cls) := rfl
theorem sub_ref {a : Addr} {b : Value} : PySem.W.subIn K (.ref a) b = PySem.W.mroIn K a b := rfl
theorem keep_ref {a : Addr} : PySem.W.keepIn K (.ref a) = (match K.lookup a with
  | some ⟨_, _, .func _, _⟩ => true
  | some ⟨_, _, .cls _, _⟩ => PySem.W.specialIn K (.ref a) "__call__" == some (some (.builtin "type.__call__"))
  | _ => false) := rfl
theorem rowQ_ok (h : rowQ K bad Pa C = true) : ∃ nm q N bs sn sub ab col dd k0 k1 k2 k3 k5, K.lookup C = some (excClassObj nm q C N bs (.ref Pa :: PySem.PX.veTail) true sn sub ab col dd k0 k1 k2 k3 k5 "ValueError.__new__") ∧ nsFree K N bad = true := by
  unfold rowQ at h
  cases e : K.lookup C with
  | none =>
    rw [e] at h
    cases h
  | some o =>
    obtain ⟨oc, od, dt, sl⟩ := o
    rw [e] at h
    cases oc with
    | type t =>
      cases dt with
      | cls cd =>
        have h2 : (decide (t = "type") && (cd.hasDict && (!cd.hasDel && (decide (cd.mro = .ref C :: .ref Pa :: PySem.PX.veTail) && ((match sl.toList with
          | [_, _, _, _, some (.builtin n), _] => decide (n = "ValueError.__new__")
          | _ => false) && nsFree K cd.ns bad))))) = true := h
        obtain ⟨a1, h3⟩ := He.ba h2
        obtain ⟨a2, h4⟩ := He.ba h3
        obtain ⟨a3, h5⟩ := He.ba h4
        obtain ⟨a4, h6⟩ := He.ba h5
        obtain ⟨a5, a6⟩ := He.ba h6
        have b1 := of_decide_eq_true a1
        have b4 := of_decide_eq_true a4
        have b3 : cd.hasDel = false := by
          cases q : cd.hasDel with
          | false => rfl
          | true =>
            rw [q] at a3
            cases a3
        obtain ⟨nm, bs, mro, ns, qn, hd, sn, sub, ab, col, del⟩ := cd
        dsimp only at a2 b3 b4 a6
        subst a2 b3 b4 b1
        split at a5
        · rename_i k0 k1 k2 k3 n k5 hs
          have b5 := of_decide_eq_true a5
          subst b5
          have hsl : sl = #[k0, k1, k2, k3, some (.builtin "ValueError.__new__"), k5] := by
            obtain ⟨l⟩ := sl
            simp only at hs
            rw [hs]
          subst hsl
          exact ⟨nm, qn, ns, bs, sn, sub, ab, col, od, k0, k1, k2, k3, k5, rfl, a6⟩
        · cases a5
      | _ => cases h
    | _ => cases h
theorem paQ_ok (h : paQ K bad Pa = true) : ∃ (od : Option Addr) (cd : ClassData) (sl : Array (Option Value)), K.lookup Pa = some ⟨.type "type", od, .cls cd, sl⟩ ∧ cd.mro = .ref Pa :: PySem.PX.veTail ∧ nsFree K cd.ns bad = true := by
  unfold paQ at h
  cases e : K.lookup Pa with
  | none =>
    rw [e] at h
    cases h
  | some o =>
    obtain ⟨oc, od, dt, sl⟩ := o
    rw [e] at h
    cases oc with
    | type t =>
      cases dt with
      | cls cd =>
        have h2 : (decide (t = "type") && (decide (cd.mro = .ref Pa :: PySem.PX.veTail) && nsFree K cd.ns bad)) = true := h
        obtain ⟨a1, h3⟩ := He.ba h2
        obtain ⟨a2, a3⟩ := He.ba h3
        have b1 := of_decide_eq_true a1
        subst b1
        exact ⟨od, cd, sl, rfl, of_decide_eq_true a2, a3⟩
      | _ => cases h
    | _ => cases h
theorem own_row {n : Str} (h : rowQ K bad Pa C = true) (hp : paQ K bad Pa = true) (hn : n ∈ bad) : PySem.W.findIn K (.ref C) n = PySem.W.alongIn K n PySem.PX.veTail := by
  obtain ⟨nm, q, N, bs, sn, sub, ab, col, dd, k0, k1, k2, k3, k5, l, f⟩ := rowQ_ok h
  obtain ⟨od, cd, sl, lp, mp, fp⟩ := paQ_ok hp
  rw [find_ref, l]
  show PySem.W.alongIn K n (.ref C :: .ref Pa :: PySem.PX.veTail) = _
  have o1 : PySem.W.ownIn K n (.ref C) = some none := by
    rw [own_ref, l]
    exact nsFree_ok f hn
  have o2 : PySem.W.ownIn K n (.ref Pa) = some none := by
    rw [own_ref, lp]
    exact nsFree_ok fp hn
  rw [PySem.W.alongIn, o1]
  show PySem.W.alongIn K n (.ref Pa :: PySem.PX.veTail) = _
  rw [PySem.W.alongIn, o2]
theorem cls_row (h : rowQ K bad Pa C = true) : (PySem.W.clsIn K C).isSome = true ∧ PySem.W.typeIn K (.ref C) = some (.type "type") ∧ PySem.W.hasDictIn K C = true ∧ ∀ b, PySem.W.subIn K (.ref C) b = some ((Value.ref C :: Value.ref Pa :: PySem.PX.veTail).contains b) := by
  obtain ⟨nm, q, N, bs, sn, sub, ab, col, dd, k0, k1, k2, k3, k5, l, f⟩ := rowQ_ok h
  have c : PySem.W.clsIn K C = some { name := nm, bases := bs, mro := .ref C :: .ref Pa :: PySem.PX.veTail, ns := N, qualname := q, hasDict := true, slotNames := sn, subclasses := sub, abstract := ab, collection := col, hasDel := false } := by
    unfold PySem.W.clsIn
    rw [l]
  refine ⟨by rw [c] <;> rfl, by rw [typ_ref, l] <;> rfl, by unfold PySem.W.hasDictIn; rw [c] <;> rfl, fun b => ?_⟩
  rw [sub_ref]
  unfold PySem.W.mroIn
  rw [c]
  rfl
theorem ercQ (h : rowQ K bad Pa C = true) (hp : paQ K bad Pa = true) (b1 : ("__setattr__" : Str) ∈ bad) (b2 : ("__getattribute__" : Str) ∈ bad) (b3 : ("__getattr__" : Str) ∈ bad) (b4 : ("__class__" : Str) ∈ bad) : ErC K C := by
  obtain ⟨c1, c2, c3, c4⟩ := cls_row h
  have cB : PySem.W.subIn K (.ref C) (.type "BaseException") = some true := by
    rw [c4] <;> rfl
  have cO : PySem.W.mroIn K C (.type "object") = some true := (c4 (.type "object")).trans rfl
  have hsp : PySem.W.specialIn K (.ref C) "__call__" = some (some (.builtin "type.__call__")) := by
    unfold PySem.W.specialIn
    rw [c2]
    kernel_rfl
  obtain ⟨nm, q, N, bs, sn, sub, ab, col, dd, k0, k1, k2, k3, k5, l, f⟩ := rowQ_ok h
  have kp : PySem.W.keepIn K (.ref C) = true := by
    rw [keep_ref, l]
    show (PySem.W.specialIn K (.ref C) "__call__" == some (some (.builtin "type.__call__"))) = true
    rw [hsp]
    exact beq_self_eq_true _
  refine ⟨⟨⟨nm, q, N, bs, _, sn, sub, ab, col, dd, k0, k1, k2, k3, k5, l, by rfl⟩, ?_, cB, c2, kp⟩, ⟨?_, ?_, cB, c3, ?_, by kernel_rfl, by kernel_rfl, cO⟩⟩
  · rw [own_row h hp b1]
    kernel_rfl
  · rw [own_row h hp b2]
    kernel_rfl
  · rw [own_row h hp b3]
    kernel_rfl
  · rw [own_row h hp b4]
    kernel_rfl
theorem ref_ne {a b : Addr} (h : a ≠ b) : (Value.ref a == Value.ref b) = false := by
  cases q : (Value.ref a == Value.ref b) with
  | false => rfl
  | true => exact absurd (Value.ref.inj (beq_iff_eq.mp q)) h
theorem sub_row (h : rowQ K bad Pa D = true) (hc : C ≠ Pa) : PySem.W.subIn K (.ref D) (.ref C) = some (decide (D = C)) := by
  obtain ⟨_, _, _, c4⟩ := cls_row h
  rw [c4]
  by_cases q : D = C
  · subst q
    rw [List.contains_cons, beq_self_eq_true, Bool.true_or, decide_eq_true rfl]
  · rw [decide_eq_false q, List.contains_cons, ref_ne (fun z => q z.symm), List.contains_cons, ref_ne hc]
    rfl
theorem kitQ (h : rowQ K bad Pa D = true) (hC : rowQ K bad Pa C = true) (hc : C ≠ Pa) : PySem.W.kitOne K (.ref D) (.ref C) = some (decide (D = C)) := by
  obtain ⟨d1, d2, _, _⟩ := cls_row hC
  unfold PySem.W.kitOne
  by_cases q : D = C
  · subst q
    rw [if_pos (beq_self_eq_true _)]
    exact congrArg some (decide_eq_true rfl).symm
  · rw [if_neg (by rw [ref_ne q]; exact Bool.false_ne_true)]
    unfold PySem.W.kitCls
    show (if ((PySem.W.clsIn K C).isSome && PySem.W.typeIn K (.ref C) == some (.type "type")) = true then PySem.W.subIn K (.ref D) (.ref C) else none) = _
    rw [d1, d2, beq_self_eq_true, if_pos (show (true && true) = true from rfl), sub_row h hc]
theorem pa_cls (hp : paQ K bad Pa = true) : (PySem.W.clsIn K Pa).isSome = true ∧ PySem.W.typeIn K (.ref Pa) = some (.type "type") ∧ ∀ b, PySem.W.subIn K (.ref Pa) b = some ((Value.ref Pa :: PySem.PX.veTail).contains b) := by
  obtain ⟨od, cd, sl, l, m, f⟩ := paQ_ok hp
  have c : PySem.W.clsIn K Pa = some cd := by
    unfold PySem.W.clsIn
    rw [l]
  refine ⟨by rw [c] <;> rfl, by rw [typ_ref, l] <;> rfl, fun b => ?_⟩
  rw [sub_ref]
  unfold PySem.W.mroIn
  rw [c]
  show (if cd.mro.isEmpty then none else some (cd.mro.contains b)) = _
  rw [m]
  rfl
theorem kitP (h : rowQ K bad Pa D = true) (hp : paQ K bad Pa = true) : PySem.W.kitOne K (.ref D) (.ref Pa) = some true := by
  obtain ⟨d1, d2, _⟩ := pa_cls hp
  obtain ⟨_, _, _, c4⟩ := cls_row h
  unfold PySem.W.kitOne
  by_cases q : (Value.ref D == Value.ref Pa) = true
  · rw [if_pos q]
  · rw [if_neg q]
    unfold PySem.W.kitCls
    show (if ((PySem.W.clsIn K Pa).isSome && PySem.W.typeIn K (.ref Pa) == some (.type "type")) = true then PySem.W.subIn K (.ref D) (.ref Pa) else none) = _
    rw [d1, d2, beq_self_eq_true, if_pos (show (true && true) = true from rfl), c4, List.contains_cons, List.contains_cons, beq_self_eq_true, Bool.true_or, Bool.or_true]
theorem kitV (h : rowQ K bad Pa D = true) : PySem.W.kitOne K (.ref D) (.type "ValueError") = some true := by
  obtain ⟨_, _, _, c4⟩ := cls_row h
  unfold PySem.W.kitOne
  rw [if_neg (by rw [show (Value.ref D == Value.type "ValueError") = false from rfl]; exact Bool.false_ne_true)]
  unfold PySem.W.kitCls
  show (if PySem.W.kitMeta "ValueError" = true then PySem.W.subIn K (.ref D) (.type "ValueError") else none) = _
  rw [show PySem.W.kitMeta "ValueError" = true by kernel_rfl, if_pos rfl, c4]
  rfl
theorem exmQ (h : rowQ K bad Pa D = true) (hC : rowQ K bad Pa C = true) (hc : C ≠ Pa) : PySem.W.exmOne K (.ref D) (.ref C) = some (decide (D = C)) := by
  obtain ⟨d1, d2, _, d4⟩ := cls_row hC
  unfold PySem.W.exmOne
  rw [d4, if_pos (by rfl)]
  unfold PySem.W.kitCls
  show (if ((PySem.W.clsIn K C).isSome && PySem.W.typeIn K (.ref C) == some (.type "type")) = true then PySem.W.subIn K (.ref D) (.ref C) else none) = _
  rw [d1, d2, beq_self_eq_true, if_pos (show (true && true) = true from rfl), sub_row h hc]
theorem exmP (h : rowQ K bad Pa D = true) (hp : paQ K bad Pa = true) : PySem.W.exmOne K (.ref D) (.ref Pa) = some true := by
  obtain ⟨d1, d2, d4⟩ := pa_cls hp
  obtain ⟨_, _, _, c4⟩ := cls_row h
  unfold PySem.W.exmOne
  rw [d4, if_pos (by rfl)]
  unfold PySem.W.kitCls
  show (if ((PySem.W.clsIn K Pa).isSome && PySem.W.typeIn K (.ref Pa) == some (.type "type")) = true then PySem.W.subIn K (.ref D) (.ref Pa) else none) = _
  rw [d1, d2, beq_self_eq_true, if_pos (show (true && true) = true from rfl), c4, List.contains_cons, List.contains_cons, beq_self_eq_true, Bool.true_or, Bool.or_true]
end
end EPL
-- part KB1
set_option maxHeartbeats 4000000
/-! B1: the facts that the head gives, the errors' places. -/
namespace EPL
open PySem PySem.Spec PyProof.Rows L2 L2H
/-- what the head says of the errors -/
structure Ev (K : PySem.W.Frag) (mg : Str → Option Value) : Prop where
  pa : paQ K badN (aPa K) = true
  pac : PaC K mg "PactError" (aPa K)
  row : ∀ i, i < 45 → rowQ K badN (aPa K) (ad K i) = true
  inj : ∀ i j, i < 45 → j < 45 → ad K i = ad K j → i = j
  npa : ∀ i, i < 45 → ad K i ≠ aPa K
  g : ∀ i, i < 45 → mg (nmE i) = some (.ref (ad K i))
  fi : ∀ i, i < 45 → PySem.W.findIn K (.ref (ad K i)) "__init__" = some (some (.ref (fiA K i)))
  ft : ∀ i, i < 45 → PySem.W.typeIn K (.ref (fiA K i)) = some (.type "function")
  ini : ∀ i, i < 45 → ∃ fd, FunD K "__init__" (nmE i ++ ".__init__") (defArgs (iniS i)) (defBody (iniS i)) (defScope (iniS i)) [] [] (fiA K i) fd
  sys : SysK K
section
variable {K : PySem.W.Frag} {mg : Str → Option Value}
theorem Ev.c (W : Ev K mg) {i : Nat} (hi : i < 45 := by decide) : ErC K (ad K i) :=
  ercQ (W.row i hi) W.pa (by decide +kernel) (by decide +kernel) (by decide +kernel) (by decide +kernel)
theorem Ev.kit (W : Ev K mg) {i j : Nat} (hi : i < 45 := by decide) (hj : j < 45 := by decide) : PySem.W.kitOne K (.ref (ad K i)) (.ref (ad K j)) = some (decide (i = j)) := by
  rw [kitQ (W.row i hi) (W.row j hj) (W.npa j hj)]
  by_cases q : i = j
  · subst q
    rw [decide_eq_true rfl, decide_eq_true rfl]
  · rw [decide_eq_false q, decide_eq_false fun z => q (W.inj i j hi hj z)]
theorem Ev.kitPa (W : Ev K mg) {i : Nat} (hi : i < 45 := by decide) : PySem.W.kitOne K (.ref (ad K i)) (.ref (aPa K)) = some true := kitP (W.row i hi) W.pa
theorem Ev.kitVe (W : Ev K mg) {i : Nat} (hi : i < 45 := by decide) : PySem.W.kitOne K (.ref (ad K i)) (.type "ValueError") = some true := kitV (W.row i hi)
theorem Ev.exm (W : Ev K mg) {i j : Nat} (hi : i < 45 := by decide) (hj : j < 45 := by decide) : PySem.W.exmOne K (.ref (ad K i)) (.ref (ad K j)) = some (decide (i = j)) := by
  rw [exmQ (W.row i hi) (W.row j hj) (W.npa j hj)]
  by_cases q : i = j
  · subst q
    rw [decide_eq_true rfl, decide_eq_true rfl]
  · rw [decide_eq_false q, decide_eq_false fun z => q (W.inj i j hi hj z)]
theorem Ev.exmPa (W : Ev K mg) {i : Nat} (hi : i < 45 := by decide) : PySem.W.exmOne K (.ref (ad K i)) (.ref (aPa K)) = some true := exmP (W.row i hi) W.pa
theorem Ev.no (W : Ev K mg) {i : Nat} {f : Str} (hf : f ∈ badN) (ha : PySem.W.alongIn K f PySem.PX.veTail = some none) (hi : i < 45 := by decide) : PySem.W.findIn K (.ref (ad K i)) f = some none := (own_row (W.row i hi) W.pa hf).trans ha
theorem row_ok {msg : Str} {j : Nat} {p1 p2 p3 p4 p5 : Pos} (hl : (p2.endLine == p5.line) = true := by rfl) : rowOk msg j p1 p2 p3 p4 p5 := fun env => ⟨plainOf (.Name "PactError" p1) env, by
  show (do
    let ov ← eval (.Name "PactError" p1) env
    standAt p2.atName
    methodCall (.Name "PactError" p1) "__init__" p2 p5 env ov 2 (backTo p5 (starEach [.Name "self" p3, .Constant (.str msg) j p4] env)) (backToKw p5 (keywordEach [] env))) = _
  congr 1
  funext ov
  congr 1
  funext _
  exact mcall_line rfl hl⟩
theorem fun_none {x q : Str} {params : Arguments} {body : List Stmt} {scope : Scope} {f : Addr} {fd : FuncData} (F : FunD K x q params body scope [] [] f fd) :
    ∃ (oc : Value) (od : Option Addr) (kV doc pm : Value) (an : Option Addr) (cdv ct : Value) (osl : Array (Option Value)), fd = PySem.W.fnOf x q params body scope .none kV doc pm an cdv ct := by
  obtain ⟨oc, od, dV, kV, doc, pm, an, cdv, ct, osl, rfl, lk, hcd, hd, _⟩ := F.ex
  rcases hd with ⟨_, rfl⟩ | ⟨h, _⟩
  · exact ⟨oc, od, kV, doc, pm, an, cdv, ct, osl, rfl⟩
  · exact absurd rfl h
theorem ft_given : PySem.W.alongIn K "given" PySem.PX.veTail = some none := by kernel_rfl
variable {P : Program} {w : World} {base : Heap}
theorem t_init0 (W : Ev K mg) : ∃ fd, ErM P w K mg base (nmE 0) (ad K 0) (fsE 0) fd ∧ EBind fd ("self" :: fsE 0) 1 [] [0] ∧ EBind fd ("self" :: fsE 0) 0 ["given"] [0] := by
  obtain ⟨fd, F⟩ := W.ini 0 (by decide)
  refine ⟨fd, ⟨W.c, W.g 0 (by decide), _, W.fi 0 (by decide), W.ft 0 (by decide), ?_⟩, ?_, ?_⟩
  · exact ok_init1 W.c W.pac F ⟨rfl, rfl, rfl, by decide +kernel, rfl, by decide +kernel, by decide +kernel⟩ row_ok rfl rfl rfl (W.no (by decide +kernel) ft_given) rfl rfl
  · obtain ⟨oc, od, kV, doc, pm, an, cdv, ct, osl, rfl⟩ := fun_none F
    intro s x us ws h1 h2
    match us, ws, h1, h2 with
    | [u1], [], _, _ => exact BindsTo.of_eq (by kernel_rfl)
  · obtain ⟨oc, od, kV, doc, pm, an, cdv, ct, osl, rfl⟩ := fun_none F
    intro s x us ws h1 h2
    match us, ws, h1, h2 with
    | [], [w1], _, _ => exact BindsTo.of_eq (by kernel_rfl)
end
end EPL
-- part KB2
set_option maxHeartbeats 4000000
/-! B2: a list that grows by displays; weaker readings. -/
namespace EPL
open PySem PySem.Spec PyProof.Rows L2 L2H
section
variable {X : Cx}
theorem pe_imp {e : Expr} {t t' : TE} (h : PE X e t) (i : ∀ σ H Q, t' σ H Q → t σ H Q) : PE X e t' := ⟨fun pins s σ H Q I q => h.run pins s σ H Q I (i _ _ _ q)⟩
theorem pa_imp {es : List Expr} {t t' : TA} (h : PA X es t) (i : ∀ σ H Q, t' σ H Q → t σ H Q) : PA X es t' := ⟨fun p pins s σ H Q I q => h.run p pins s σ H Q I (i _ _ _ q)⟩
theorem ps_imp {e : Stmt} {t t' : TS} (h : PS X e t) (i : ∀ D σ H, t' D σ H → t D σ H) : PS X e t' := ⟨fun pins s σ H D I q => h.run pins s σ H D I (i _ _ _ q)⟩
theorem pss_imp {e : List Stmt} {t t' : TS} (h : PSs X e t) (i : ∀ D σ H, t' D σ H → t D σ H) : PSs X e t' := ⟨fun pins s σ H D I q => h.run pins s σ H D I (i _ _ _ q)⟩
/-! ### many things, one behind another -/
inductive A2 {ι : Type} (R : ι → V → Prop) : List ι → List V → Prop
  | nil : A2 R [] []
  | cons {i : ι} {is : List ι} {v : V} {vs : List V} : R i v → A2 R is vs → A2 R (i :: is) (v :: vs)
theorem A2.imp {ι : Type} {R S : ι → V → Prop} (h : ∀ i v, R i v → S i v) : ∀ {is : List ι} {vs : List V}, A2 R is vs → A2 S is vs
  | _, _, .nil => .nil
  | _, _, .cons a b => .cons (h _ _ a) (b.imp h)
theorem A2.append {ι : Type} {R : ι → V → Prop} : ∀ {is js : List ι} {vs ws : List V}, A2 R is vs → A2 R js ws → A2 R (is ++ js) (vs ++ ws)
  | _, _, _, _, .nil, h => h
  | _, _, _, _, .cons a b, h => .cons a (b.append h)
theorem A2.length {ι : Type} {R : ι → V → Prop} : ∀ {is : List ι} {vs : List V}, A2 R is vs → is.length = vs.length
  | _, _, .nil => rfl
  | _, _, .cons _ b => congrArg Nat.succ b.length
theorem A2.get {ι : Type} {R : ι → V → Prop} : ∀ {is : List ι} {vs : List V} {n : Nat} {i : ι}, A2 R is vs → is[n]? = some i → ∃ v, vs[n]? = some v ∧ R i v
  | _, _, _, _, .nil, e => nomatch e
  | _, _, 0, _, .cons a _, e => by
    cases e
    exact ⟨_, rfl, a⟩
  | _, _, n + 1, _, .cons _ b, e => b.get (n := n) e
/-- what holds of slots and heap, whatever is laid beside, whatever stands in slot j -/
structure Stay (j : Nat) (Pre : St → Hp → Prop) : Prop where
  h : ∀ σ H H', Same H H' → Pre σ H → Pre σ H'
  s : ∀ σ H v, Pre σ H → Pre (σ.set j v) H
/-- what is told of a thing stays told -/
def Grows {ι : Type} (R : Hp → ι → V → Prop) : Prop := ∀ H H' i v, Same H H' → R H i v → R H' i v
variable {ι : Type} {Pre : St → Hp → Prop} {R : Hp → ι → V → Prop} {j : Nat}
/-- one thing is made, asked -/
abbrev tEl (Pre : St → Hp → Prop) (R : Hp → ι → V → Prop) (i : ι) : TE := fun σ H Q => Pre σ H ∧ ∀ v H', Same H H' → R H' i v → Q v H'
abbrev tEls (Pre : St → Hp → Prop) (R : Hp → ι → V → Prop) (is : List ι) : TA := fun σ H Q => Pre σ H ∧ ∀ vs H', Same H H' → A2 (R H') is vs → Q vs H'
theorem els_nil : PA X [] (tEls Pre R []) := pa_imp pa_nil fun _ H _ h => h.2 [] H (Same.refl H) .nil
theorem els_cons (st : Stay j Pre) (gr : Grows R) {e : Expr} {es : List Expr} {i : ι} {is : List ι} (he : PE X e (tEl Pre R i)) (hs : PA X es (tEls Pre R is)) (q : starEach (e :: es) X.env = (false, eval e X.env) :: starEach es X.env := by rfl) : PA X (e :: es) (tEls Pre R (i :: is)) :=
  pa_imp (pa_cons he hs q) fun σ H Q h => ⟨h.1, fun v H1 s1 r1 => ⟨st.h _ _ _ s1 h.1, fun vs H2 s2 r2 => h.2 _ _ (s1.trans s2) (.cons (gr _ _ _ _ s2 r1) r2)⟩⟩
theorem same_upd {H : Hp} {a : Addr} {o : HO} (h : H a = none) : Same H (upd H a o) := fun b u z => by
  rw [upd_ne (ne_of_none z h)]
  exact z
/-- the list so far stands in slot j -/
def Acc (Pre : St → Hp → Prop) (R : Hp → ι → V → Prop) (j : Nat) (is : List ι) (σ : St) (H : Hp) : Prop := ∃ l vs, σ[j]? = some (some (.ref l)) ∧ H l = some (.lst vs) ∧ A2 (R H) is vs ∧ Pre σ H ∧ j < σ.length
/-- what is left to do: more is laid on, the list is returned -/
abbrev tAcc (Pre : St → Hp → Prop) (R : Hp → ι → V → Prop) (j : Nat) (is more : List ι) : TS := fun D σ H => Acc Pre R j is σ H ∧ (is ++ more).length ≤ 1000 ∧ ∀ l H' vs, Same H H' → H l = none → H' l = some (.lst vs) → A2 (R H') (is ++ more) vs → D.rt (.ref l) H'
abbrev tAll (Pre : St → Hp → Prop) (R : Hp → ι → V → Prop) (j : Nat) (all : List ι) : TS := fun D σ H => Pre σ H ∧ j < σ.length ∧ all.length ≤ 1000 ∧ ∀ l H' vs, Same H H' → H l = none → H' l = some (.lst vs) → A2 (R H') all vs → D.rt (.ref l) H'
theorem small {n : Nat} (h : n ≤ 1000) : n ≤ sizeLine := Nat.le_of_lt (small1000 h)
theorem cat_els (st : Stay j Pre) (gr : Grows R) {x : Str} {p1 p2 p3 : Pos} {es : List Expr} {is more : List ι} (hx : PE X (.Name x p1) (tVar j)) (he : PA X es (tEls Pre R more)) :
    PE X (.BinOp (.Name x p1) .Add (.List es p2) p3) (fun σ H Q => Acc Pre R j is σ H ∧ (is ++ more).length ≤ 1000 ∧ ∀ l H' vs, Same H H' → H l = none → H' l = some (.lst vs) → A2 (R H') (is ++ more) vs → Q (.ref l) H') :=
  pe_imp (pe_op op_cat hx (pe_lst he)) fun σ H Q h => by
    obtain ⟨⟨l, vs, hl, hv, ha, hp, hj⟩, hn, q⟩ := h
    refine ⟨.ref l, hl, hp, fun ws H1 s1 a1 => ⟨?_, fun p hp1 => ?_⟩⟩
    · refine small ?_
      rw [← a1.length]
      rw [List.length_append] at hn
      omega
    · have s2 : Same H1 (upd H1 p (.lst ws)) := same_upd hp1
      refine ⟨l, p, vs, ws, rfl, rfl, s2 _ _ (s1 _ _ hv), upd_same, ?_, fun r hr => ?_⟩
      · refine small ?_
        rw [← a1.length, ← ha.length, ← List.length_append]
        exact hn
      · have s3 : Same (upd H1 p (.lst ws)) (upd (upd H1 p (.lst ws)) r (.lst (vs ++ ws))) := same_upd hr
        have s4 := (s1.trans s2).trans s3
        exact q r _ (vs ++ ws) s4 ((s1.trans s2).free hr) upd_same ((ha.imp fun i v => gr _ _ _ _ s4).append (a1.imp fun i v => gr _ _ _ _ (s2.trans s3)))
/-- return x + [..] -/
theorem acc_last (st : Stay j Pre) (gr : Grows R) {x : Str} {p1 p2 p3 p4 : Pos} {es : List Expr} {is more : List ι} (hx : PE X (.Name x p1) (tVar j)) (he : PA X es (tEls Pre R more)) :
    PSs X [.Return (some (.BinOp (.Name x p1) .Add (.List es p2) p3)) p4] (tAcc Pre R j is more) := pss_imp (pss_one (ps_ret (cat_els (is := is) st gr hx he))) fun D σ H h => h
/-- x = x + [..] -/
theorem acc_mid (st : Stay j Pre) (gr : Grows R) {x : Str} {p0 p1 p2 p3 p4 : Pos} {es : List Expr} {is k more : List ι} {rest : List Stmt} (hN : X.N.Nodup) (hi : X.N[j]? = some x) (hl : Loc X.env.scope x) (hx : PE X (.Name x p1) (tVar j)) (he : PA X es (tEls Pre R k))
    (hr : PSs X rest (tAcc Pre R j (is ++ k) more)) (hs : swapsWith (.BinOp (.Name x p1) .Add (.List es p2) p3) (some (.Name x p0)) p4.line X.env = pure false := by rfl) (hf : X.fn x = true ∨ X.env.scope.names.lookup x = some .local := by first | exact .inl rfl | exact .inr rfl | assumption) :
    PSs X (.Assign [.Name x p0] (.BinOp (.Name x p1) .Add (.List es p2) p3) p4 :: rest) (tAcc Pre R j is (k ++ more)) :=
  pss_imp (pss_cons (ps_set hN hi hl (cat_els (is := is) st gr hx he) hs hf) hr) fun D σ H h => by
    obtain ⟨a, hn, q⟩ := h
    have hj : j < σ.length := a.choose_spec.choose_spec.2.2.2.2
    have hp : Pre σ H := a.choose_spec.choose_spec.2.2.2.1
    rw [← List.append_assoc] at hn q
    refine ⟨a, (by rw [List.length_append] at hn; omega), fun l H1 vs s1 n1 e1 a1 => ?_⟩
    refine ⟨⟨l, vs, ?_, e1, a1, st.s _ _ _ (st.h _ _ _ s1 hp), (by rw [List.length_set]; exact hj)⟩, hn, fun l2 H2 ws s2 n2 e2 a2 => q l2 H2 ws (s1.trans s2) (s1.free n2) e2 a2⟩
    rw [List.getElem?_set_self hj]
/-- x = [..] -/
theorem acc_first (st : Stay j Pre) (gr : Grows R) {x : Str} {p0 p2 p4 : Pos} {es : List Expr} {k more : List ι} {rest : List Stmt} (hN : X.N.Nodup) (hi : X.N[j]? = some x) (hl : Loc X.env.scope x) (he : PA X es (tEls Pre R k))
    (hr : PSs X rest (tAcc Pre R j k more)) (hs : swapsWith (.List es p2) (some (.Name x p0)) p4.line X.env = pure false := by rfl) (hf : X.fn x = true ∨ X.env.scope.names.lookup x = some .local := by first | exact .inl rfl | exact .inr rfl | assumption) :
    PSs X (.Assign [.Name x p0] (.List es p2) p4 :: rest) (tAll Pre R j (k ++ more)) :=
  pss_imp (pss_cons (ps_set hN hi hl (pe_lst he) hs hf) hr) fun D σ H h => by
    obtain ⟨hp, hj, hn, q⟩ := h
    refine ⟨hp, fun vs H1 s1 a1 => ⟨?_, fun l hl1 => ?_⟩⟩
    · refine small ?_
      rw [← a1.length]
      rw [List.length_append] at hn
      omega
    · have s2 : Same H1 (upd H1 l (.lst vs)) := same_upd hl1
      refine ⟨⟨l, vs, ?_, upd_same, a1.imp fun i v => gr _ _ _ _ s2, st.s _ _ _ (st.h _ _ _ (s1.trans s2) hp), (by rw [List.length_set]; exact hj)⟩, hn, fun l2 H2 ws s3 n2 e2 a2 => q l2 H2 ws ((s1.trans s2).trans s3) ((s1.trans s2).free n2) e2 a2⟩
      rw [List.getElem?_set_self hj]
end
end EPL
-- part KB3
set_option maxHeartbeats 4000000
/-! B3: each error class is made. Printed by gen_kb3.py. -/
namespace EPL
open PySem PySem.Spec PyProof.Rows L2 L2H
section
variable {P : Program} {w : World} {K : PySem.W.Frag} {mg : Str → Option Value} {base : Heap}
theorem ft_payoff : PySem.W.alongIn K "payoff" PySem.PX.veTail = some none := by kernel_rfl
theorem ft_count : PySem.W.alongIn K "count" PySem.PX.veTail = some none := by kernel_rfl
theorem ft_name : PySem.W.alongIn K "name" PySem.PX.veTail = some none := by kernel_rfl
theorem ft_line : PySem.W.alongIn K "line" PySem.PX.veTail = some none := by kernel_rfl
theorem ft_column : PySem.W.alongIn K "column" PySem.PX.veTail = some none := by kernel_rfl
theorem ft_unit : PySem.W.alongIn K "unit" PySem.PX.veTail = some none := by kernel_rfl
theorem ft_store : PySem.W.alongIn K "store" PySem.PX.veTail = some none := by kernel_rfl
theorem ft_reason : PySem.W.alongIn K "reason" PySem.PX.veTail = some none := by kernel_rfl
theorem ft_word : PySem.W.alongIn K "word" PySem.PX.veTail = some none := by kernel_rfl
theorem ft_side : PySem.W.alongIn K "side" PySem.PX.veTail = some none := by kernel_rfl
theorem ft_harm : PySem.W.alongIn K "harm" PySem.PX.veTail = some none := by kernel_rfl
theorem ft_plan : PySem.W.alongIn K "plan" PySem.PX.veTail = some none := by kernel_rfl
theorem ft_answer : PySem.W.alongIn K "answer" PySem.PX.veTail = some none := by kernel_rfl
/-- an error class of one attribute: made by place, by name -/
def Mk1 (P : Program) (w : World) (K : PySem.W.Frag) (mg : Str → Option Value) (base : Heap) (i : Nat) : Prop := ∃ fd, ErM P w K mg base (nmE i) (ad K i) (fsE i) fd ∧ EBind fd ("self" :: fsE i) 1 [] [0] ∧ EBind fd ("self" :: fsE i) 0 (fsE i) [0]
theorem mk_0 (W : Ev K mg) : Mk1 P w K mg base 0 := by
  obtain ⟨fd, F⟩ := W.ini 0 (by decide)
  refine ⟨fd, ⟨W.c, W.g 0 (by decide), _, W.fi 0 (by decide), W.ft 0 (by decide), ?_⟩, ?_, ?_⟩
  · exact ok_init1 W.c W.pac F ⟨rfl, rfl, rfl, by decide +kernel, rfl, by decide +kernel, by decide +kernel⟩ row_ok rfl rfl rfl (W.no (by decide +kernel) ft_given) rfl rfl
  · obtain ⟨oc, od, kV, doc, pm, an, cdv, ct, osl, rfl⟩ := fun_none F
    intro s x us ws h1 h2
    match us, ws, h1, h2 with
    | [u0], [], _, _ => exact BindsTo.of_eq (by kernel_rfl)
  · obtain ⟨oc, od, kV, doc, pm, an, cdv, ct, osl, rfl⟩ := fun_none F
    intro s x us ws h1 h2
    match us, ws, h1, h2 with
    | [], [w0], _, _ => exact BindsTo.of_eq (by kernel_rfl)
theorem mk_1 (W : Ev K mg) : Mk1 P w K mg base 1 := by
  obtain ⟨fd, F⟩ := W.ini 1 (by decide)
  refine ⟨fd, ⟨W.c, W.g 1 (by decide), _, W.fi 1 (by decide), W.ft 1 (by decide), ?_⟩, ?_, ?_⟩
  · exact ok_init1 W.c W.pac F ⟨rfl, rfl, rfl, by decide +kernel, rfl, by decide +kernel, by decide +kernel⟩ row_ok rfl rfl rfl (W.no (by decide +kernel) ft_given) rfl rfl
  · obtain ⟨oc, od, kV, doc, pm, an, cdv, ct, osl, rfl⟩ := fun_none F
    intro s x us ws h1 h2
    match us, ws, h1, h2 with
    | [u0], [], _, _ => exact BindsTo.of_eq (by kernel_rfl)
  · obtain ⟨oc, od, kV, doc, pm, an, cdv, ct, osl, rfl⟩ := fun_none F
    intro s x us ws h1 h2
    match us, ws, h1, h2 with
    | [], [w0], _, _ => exact BindsTo.of_eq (by kernel_rfl)
theorem mk_2 (W : Ev K mg) : Mk1 P w K mg base 2 := by
  obtain ⟨fd, F⟩ := W.ini 2 (by decide)
  refine ⟨fd, ⟨W.c, W.g 2 (by decide), _, W.fi 2 (by decide), W.ft 2 (by decide), ?_⟩, ?_, ?_⟩
  · exact ok_init1 W.c W.pac F ⟨rfl, rfl, rfl, by decide +kernel, rfl, by decide +kernel, by decide +kernel⟩ row_ok rfl rfl rfl (W.no (by decide +kernel) ft_given) rfl rfl
  · obtain ⟨oc, od, kV, doc, pm, an, cdv, ct, osl, rfl⟩ := fun_none F
    intro s x us ws h1 h2
    match us, ws, h1, h2 with
    | [u0], [], _, _ => exact BindsTo.of_eq (by kernel_rfl)
  · obtain ⟨oc, od, kV, doc, pm, an, cdv, ct, osl, rfl⟩ := fun_none F
    intro s x us ws h1 h2
    match us, ws, h1, h2 with
    | [], [w0], _, _ => exact BindsTo.of_eq (by kernel_rfl)
theorem mk_3 (W : Ev K mg) : Mk1 P w K mg base 3 := by
  obtain ⟨fd, F⟩ := W.ini 3 (by decide)
  refine ⟨fd, ⟨W.c, W.g 3 (by decide), _, W.fi 3 (by decide), W.ft 3 (by decide), ?_⟩, ?_, ?_⟩
  · exact ok_init1 W.c W.pac F ⟨rfl, rfl, rfl, by decide +kernel, rfl, by decide +kernel, by decide +kernel⟩ row_ok rfl rfl rfl (W.no (by decide +kernel) ft_given) rfl rfl
  · obtain ⟨oc, od, kV, doc, pm, an, cdv, ct, osl, rfl⟩ := fun_none F
    intro s x us ws h1 h2
    match us, ws, h1, h2 with
    | [u0], [], _, _ => exact BindsTo.of_eq (by kernel_rfl)
  · obtain ⟨oc, od, kV, doc, pm, an, cdv, ct, osl, rfl⟩ := fun_none F
    intro s x us ws h1 h2
    match us, ws, h1, h2 with
    | [], [w0], _, _ => exact BindsTo.of_eq (by kernel_rfl)
theorem mk_4 (W : Ev K mg) : Mk1 P w K mg base 4 := by
  obtain ⟨fd, F⟩ := W.ini 4 (by decide)
  refine ⟨fd, ⟨W.c, W.g 4 (by decide), _, W.fi 4 (by decide), W.ft 4 (by decide), ?_⟩, ?_, ?_⟩
  · exact ok_init1 W.c W.pac F ⟨rfl, rfl, rfl, by decide +kernel, rfl, by decide +kernel, by decide +kernel⟩ row_ok rfl rfl rfl (W.no (by decide +kernel) ft_given) rfl rfl
  · obtain ⟨oc, od, kV, doc, pm, an, cdv, ct, osl, rfl⟩ := fun_none F
    intro s x us ws h1 h2
    match us, ws, h1, h2 with
    | [u0], [], _, _ => exact BindsTo.of_eq (by kernel_rfl)
  · obtain ⟨oc, od, kV, doc, pm, an, cdv, ct, osl, rfl⟩ := fun_none F
    intro s x us ws h1 h2
    match us, ws, h1, h2 with
    | [], [w0], _, _ => exact BindsTo.of_eq (by kernel_rfl)
theorem mk_5 (W : Ev K mg) : Mk1 P w K mg base 5 := by
  obtain ⟨fd, F⟩ := W.ini 5 (by decide)
  refine ⟨fd, ⟨W.c, W.g 5 (by decide), _, W.fi 5 (by decide), W.ft 5 (by decide), ?_⟩, ?_, ?_⟩
  · exact ok_init1 W.c W.pac F ⟨rfl, rfl, rfl, by decide +kernel, rfl, by decide +kernel, by decide +kernel⟩ row_ok rfl rfl rfl (W.no (by decide +kernel) ft_given) rfl rfl
  · obtain ⟨oc, od, kV, doc, pm, an, cdv, ct, osl, rfl⟩ := fun_none F
    intro s x us ws h1 h2
    match us, ws, h1, h2 with
    | [u0], [], _, _ => exact BindsTo.of_eq (by kernel_rfl)
  · obtain ⟨oc, od, kV, doc, pm, an, cdv, ct, osl, rfl⟩ := fun_none F
    intro s x us ws h1 h2
    match us, ws, h1, h2 with
    | [], [w0], _, _ => exact BindsTo.of_eq (by kernel_rfl)
theorem mk_6 (W : Ev K mg) : Mk1 P w K mg base 6 := by
  obtain ⟨fd, F⟩ := W.ini 6 (by decide)
  refine ⟨fd, ⟨W.c, W.g 6 (by decide), _, W.fi 6 (by decide), W.ft 6 (by decide), ?_⟩, ?_, ?_⟩
  · exact ok_init1 W.c W.pac F ⟨rfl, rfl, rfl, by decide +kernel, rfl, by decide +kernel, by decide +kernel⟩ row_ok rfl rfl rfl (W.no (by decide +kernel) ft_given) rfl rfl
  · obtain ⟨oc, od, kV, doc, pm, an, cdv, ct, osl, rfl⟩ := fun_none F
    intro s x us ws h1 h2
    match us, ws, h1, h2 with
    | [u0], [], _, _ => exact BindsTo.of_eq (by kernel_rfl)
  · obtain ⟨oc, od, kV, doc, pm, an, cdv, ct, osl, rfl⟩ := fun_none F
    intro s x us ws h1 h2
    match us, ws, h1, h2 with
    | [], [w0], _, _ => exact BindsTo.of_eq (by kernel_rfl)
theorem mk_7 (W : Ev K mg) : Mk1 P w K mg base 7 := by
  obtain ⟨fd, F⟩ := W.ini 7 (by decide)
  refine ⟨fd, ⟨W.c, W.g 7 (by decide), _, W.fi 7 (by decide), W.ft 7 (by decide), ?_⟩, ?_, ?_⟩
  · exact ok_init1 W.c W.pac F ⟨rfl, rfl, rfl, by decide +kernel, rfl, by decide +kernel, by decide +kernel⟩ row_ok rfl rfl rfl (W.no (by decide +kernel) ft_given) rfl rfl
  · obtain ⟨oc, od, kV, doc, pm, an, cdv, ct, osl, rfl⟩ := fun_none F
    intro s x us ws h1 h2
    match us, ws, h1, h2 with
    | [u0], [], _, _ => exact BindsTo.of_eq (by kernel_rfl)
  · obtain ⟨oc, od, kV, doc, pm, an, cdv, ct, osl, rfl⟩ := fun_none F
    intro s x us ws h1 h2
    match us, ws, h1, h2 with
    | [], [w0], _, _ => exact BindsTo.of_eq (by kernel_rfl)
theorem mk_8 (W : Ev K mg) : Mk1 P w K mg base 8 := by
  obtain ⟨fd, F⟩ := W.ini 8 (by decide)
  refine ⟨fd, ⟨W.c, W.g 8 (by decide), _, W.fi 8 (by decide), W.ft 8 (by decide), ?_⟩, ?_, ?_⟩
  · exact ok_init1 W.c W.pac F ⟨rfl, rfl, rfl, by decide +kernel, rfl, by decide +kernel, by decide +kernel⟩ row_ok rfl rfl rfl (W.no (by decide +kernel) ft_given) rfl rfl
  · obtain ⟨oc, od, kV, doc, pm, an, cdv, ct, osl, rfl⟩ := fun_none F
    intro s x us ws h1 h2
    match us, ws, h1, h2 with
    | [u0], [], _, _ => exact BindsTo.of_eq (by kernel_rfl)
  · obtain ⟨oc, od, kV, doc, pm, an, cdv, ct, osl, rfl⟩ := fun_none F
    intro s x us ws h1 h2
    match us, ws, h1, h2 with
    | [], [w0], _, _ => exact BindsTo.of_eq (by kernel_rfl)
theorem mk_9 (W : Ev K mg) : Mk1 P w K mg base 9 := by
  obtain ⟨fd, F⟩ := W.ini 9 (by decide)
  refine ⟨fd, ⟨W.c, W.g 9 (by decide), _, W.fi 9 (by decide), W.ft 9 (by decide), ?_⟩, ?_, ?_⟩
  · exact ok_init1 W.c W.pac F ⟨rfl, rfl, rfl, by decide +kernel, rfl, by decide +kernel, by decide +kernel⟩ row_ok rfl rfl rfl (W.no (by decide +kernel) ft_given) rfl rfl
  · obtain ⟨oc, od, kV, doc, pm, an, cdv, ct, osl, rfl⟩ := fun_none F
    intro s x us ws h1 h2
    match us, ws, h1, h2 with
    | [u0], [], _, _ => exact BindsTo.of_eq (by kernel_rfl)
  · obtain ⟨oc, od, kV, doc, pm, an, cdv, ct, osl, rfl⟩ := fun_none F
    intro s x us ws h1 h2
    match us, ws, h1, h2 with
    | [], [w0], _, _ => exact BindsTo.of_eq (by kernel_rfl)
theorem mk_10 (W : Ev K mg) : Mk1 P w K mg base 10 := by
  obtain ⟨fd, F⟩ := W.ini 10 (by decide)
  refine ⟨fd, ⟨W.c, W.g 10 (by decide), _, W.fi 10 (by decide), W.ft 10 (by decide), ?_⟩, ?_, ?_⟩
  · exact ok_init1 W.c W.pac F ⟨rfl, rfl, rfl, by decide +kernel, rfl, by decide +kernel, by decide +kernel⟩ row_ok rfl rfl rfl (W.no (by decide +kernel) ft_given) rfl rfl
  · obtain ⟨oc, od, kV, doc, pm, an, cdv, ct, osl, rfl⟩ := fun_none F
    intro s x us ws h1 h2
    match us, ws, h1, h2 with
    | [u0], [], _, _ => exact BindsTo.of_eq (by kernel_rfl)
  · obtain ⟨oc, od, kV, doc, pm, an, cdv, ct, osl, rfl⟩ := fun_none F
    intro s x us ws h1 h2
    match us, ws, h1, h2 with
    | [], [w0], _, _ => exact BindsTo.of_eq (by kernel_rfl)
theorem mk_11 (W : Ev K mg) : Mk1 P w K mg base 11 := by
  obtain ⟨fd, F⟩ := W.ini 11 (by decide)
  refine ⟨fd, ⟨W.c, W.g 11 (by decide), _, W.fi 11 (by decide), W.ft 11 (by decide), ?_⟩, ?_, ?_⟩
  · exact ok_init1 W.c W.pac F ⟨rfl, rfl, rfl, by decide +kernel, rfl, by decide +kernel, by decide +kernel⟩ row_ok rfl rfl rfl (W.no (by decide +kernel) ft_given) rfl rfl
  · obtain ⟨oc, od, kV, doc, pm, an, cdv, ct, osl, rfl⟩ := fun_none F
    intro s x us ws h1 h2
    match us, ws, h1, h2 with
    | [u0], [], _, _ => exact BindsTo.of_eq (by kernel_rfl)
  · obtain ⟨oc, od, kV, doc, pm, an, cdv, ct, osl, rfl⟩ := fun_none F
    intro s x us ws h1 h2
    match us, ws, h1, h2 with
    | [], [w0], _, _ => exact BindsTo.of_eq (by kernel_rfl)
theorem mk_12 (W : Ev K mg) : Mk1 P w K mg base 12 := by
  obtain ⟨fd, F⟩ := W.ini 12 (by decide)
  refine ⟨fd, ⟨W.c, W.g 12 (by decide), _, W.fi 12 (by decide), W.ft 12 (by decide), ?_⟩, ?_, ?_⟩
  · exact ok_init1 W.c W.pac F ⟨rfl, rfl, rfl, by decide +kernel, rfl, by decide +kernel, by decide +kernel⟩ row_ok rfl rfl rfl (W.no (by decide +kernel) ft_given) rfl rfl
  · obtain ⟨oc, od, kV, doc, pm, an, cdv, ct, osl, rfl⟩ := fun_none F
    intro s x us ws h1 h2
    match us, ws, h1, h2 with
    | [u0], [], _, _ => exact BindsTo.of_eq (by kernel_rfl)
  · obtain ⟨oc, od, kV, doc, pm, an, cdv, ct, osl, rfl⟩ := fun_none F
    intro s x us ws h1 h2
    match us, ws, h1, h2 with
    | [], [w0], _, _ => exact BindsTo.of_eq (by kernel_rfl)
theorem mk_13 (W : Ev K mg) : Mk1 P w K mg base 13 := by
  obtain ⟨fd, F⟩ := W.ini 13 (by decide)
  refine ⟨fd, ⟨W.c, W.g 13 (by decide), _, W.fi 13 (by decide), W.ft 13 (by decide), ?_⟩, ?_, ?_⟩
  · exact ok_init1 W.c W.pac F ⟨rfl, rfl, rfl, by decide +kernel, rfl, by decide +kernel, by decide +kernel⟩ row_ok rfl rfl rfl (W.no (by decide +kernel) ft_given) rfl rfl
  · obtain ⟨oc, od, kV, doc, pm, an, cdv, ct, osl, rfl⟩ := fun_none F
    intro s x us ws h1 h2
    match us, ws, h1, h2 with
    | [u0], [], _, _ => exact BindsTo.of_eq (by kernel_rfl)
  · obtain ⟨oc, od, kV, doc, pm, an, cdv, ct, osl, rfl⟩ := fun_none F
    intro s x us ws h1 h2
    match us, ws, h1, h2 with
    | [], [w0], _, _ => exact BindsTo.of_eq (by kernel_rfl)
theorem mk_14 (W : Ev K mg) : Mk1 P w K mg base 14 := by
  obtain ⟨fd, F⟩ := W.ini 14 (by decide)
  refine ⟨fd, ⟨W.c, W.g 14 (by decide), _, W.fi 14 (by decide), W.ft 14 (by decide), ?_⟩, ?_, ?_⟩
  · exact ok_init1 W.c W.pac F ⟨rfl, rfl, rfl, by decide +kernel, rfl, by decide +kernel, by decide +kernel⟩ row_ok rfl rfl rfl (W.no (by decide +kernel) ft_given) rfl rfl
  · obtain ⟨oc, od, kV, doc, pm, an, cdv, ct, osl, rfl⟩ := fun_none F
    intro s x us ws h1 h2
    match us, ws, h1, h2 with
    | [u0], [], _, _ => exact BindsTo.of_eq (by kernel_rfl)
  · obtain ⟨oc, od, kV, doc, pm, an, cdv, ct, osl, rfl⟩ := fun_none F
    intro s x us ws h1 h2
    match us, ws, h1, h2 with
    | [], [w0], _, _ => exact BindsTo.of_eq (by kernel_rfl)
theorem mk_15 (W : Ev K mg) : Mk1 P w K mg base 15 := by
  obtain ⟨fd, F⟩ := W.ini 15 (by decide)
  refine ⟨fd, ⟨W.c, W.g 15 (by decide), _, W.fi 15 (by decide), W.ft 15 (by decide), ?_⟩, ?_, ?_⟩
  · exact ok_init1 W.c W.pac F ⟨rfl, rfl, rfl, by decide +kernel, rfl, by decide +kernel, by decide +kernel⟩ row_ok rfl rfl rfl (W.no (by decide +kernel) ft_given) rfl rfl
  · obtain ⟨oc, od, kV, doc, pm, an, cdv, ct, osl, rfl⟩ := fun_none F
    intro s x us ws h1 h2
    match us, ws, h1, h2 with
    | [u0], [], _, _ => exact BindsTo.of_eq (by kernel_rfl)
  · obtain ⟨oc, od, kV, doc, pm, an, cdv, ct, osl, rfl⟩ := fun_none F
    intro s x us ws h1 h2
    match us, ws, h1, h2 with
    | [], [w0], _, _ => exact BindsTo.of_eq (by kernel_rfl)
theorem mk_16 (W : Ev K mg) : Mk1 P w K mg base 16 := by
  obtain ⟨fd, F⟩ := W.ini 16 (by decide)
  refine ⟨fd, ⟨W.c, W.g 16 (by decide), _, W.fi 16 (by decide), W.ft 16 (by decide), ?_⟩, ?_, ?_⟩
  · exact ok_init1 W.c W.pac F ⟨rfl, rfl, rfl, by decide +kernel, rfl, by decide +kernel, by decide +kernel⟩ row_ok rfl rfl rfl (W.no (by decide +kernel) ft_given) rfl rfl
  · obtain ⟨oc, od, kV, doc, pm, an, cdv, ct, osl, rfl⟩ := fun_none F
    intro s x us ws h1 h2
    match us, ws, h1, h2 with
    | [u0], [], _, _ => exact BindsTo.of_eq (by kernel_rfl)
  · obtain ⟨oc, od, kV, doc, pm, an, cdv, ct, osl, rfl⟩ := fun_none F
    intro s x us ws h1 h2
    match us, ws, h1, h2 with
    | [], [w0], _, _ => exact BindsTo.of_eq (by kernel_rfl)
theorem mk_17 (W : Ev K mg) : Mk1 P w K mg base 17 := by
  obtain ⟨fd, F⟩ := W.ini 17 (by decide)
  refine ⟨fd, ⟨W.c, W.g 17 (by decide), _, W.fi 17 (by decide), W.ft 17 (by decide), ?_⟩, ?_, ?_⟩
  · exact ok_init1 W.c W.pac F ⟨rfl, rfl, rfl, by decide +kernel, rfl, by decide +kernel, by decide +kernel⟩ row_ok rfl rfl rfl (W.no (by decide +kernel) ft_given) rfl rfl
  · obtain ⟨oc, od, kV, doc, pm, an, cdv, ct, osl, rfl⟩ := fun_none F
    intro s x us ws h1 h2
    match us, ws, h1, h2 with
    | [u0], [], _, _ => exact BindsTo.of_eq (by kernel_rfl)
  · obtain ⟨oc, od, kV, doc, pm, an, cdv, ct, osl, rfl⟩ := fun_none F
    intro s x us ws h1 h2
    match us, ws, h1, h2 with
    | [], [w0], _, _ => exact BindsTo.of_eq (by kernel_rfl)
theorem mk_18 (W : Ev K mg) : Mk1 P w K mg base 18 := by
  obtain ⟨fd, F⟩ := W.ini 18 (by decide)
  refine ⟨fd, ⟨W.c, W.g 18 (by decide), _, W.fi 18 (by decide), W.ft 18 (by decide), ?_⟩, ?_, ?_⟩
  · exact ok_init1 W.c W.pac F ⟨rfl, rfl, rfl, by decide +kernel, rfl, by decide +kernel, by decide +kernel⟩ row_ok rfl rfl rfl (W.no (by decide +kernel) ft_given) rfl rfl
  · obtain ⟨oc, od, kV, doc, pm, an, cdv, ct, osl, rfl⟩ := fun_none F
    intro s x us ws h1 h2
    match us, ws, h1, h2 with
    | [u0], [], _, _ => exact BindsTo.of_eq (by kernel_rfl)
  · obtain ⟨oc, od, kV, doc, pm, an, cdv, ct, osl, rfl⟩ := fun_none F
    intro s x us ws h1 h2
    match us, ws, h1, h2 with
    | [], [w0], _, _ => exact BindsTo.of_eq (by kernel_rfl)
theorem mk_19 (W : Ev K mg) : Mk1 P w K mg base 19 := by
  obtain ⟨fd, F⟩ := W.ini 19 (by decide)
  refine ⟨fd, ⟨W.c, W.g 19 (by decide), _, W.fi 19 (by decide), W.ft 19 (by decide), ?_⟩, ?_, ?_⟩
  · exact ok_init1 W.c W.pac F ⟨rfl, rfl, rfl, by decide +kernel, rfl, by decide +kernel, by decide +kernel⟩ row_ok rfl rfl rfl (W.no (by decide +kernel) ft_given) rfl rfl
  · obtain ⟨oc, od, kV, doc, pm, an, cdv, ct, osl, rfl⟩ := fun_none F
    intro s x us ws h1 h2
    match us, ws, h1, h2 with
    | [u0], [], _, _ => exact BindsTo.of_eq (by kernel_rfl)
  · obtain ⟨oc, od, kV, doc, pm, an, cdv, ct, osl, rfl⟩ := fun_none F
    intro s x us ws h1 h2
    match us, ws, h1, h2 with
    | [], [w0], _, _ => exact BindsTo.of_eq (by kernel_rfl)
theorem mk_20 (W : Ev K mg) : Mk1 P w K mg base 20 := by
  obtain ⟨fd, F⟩ := W.ini 20 (by decide)
  refine ⟨fd, ⟨W.c, W.g 20 (by decide), _, W.fi 20 (by decide), W.ft 20 (by decide), ?_⟩, ?_, ?_⟩
  · exact ok_init1 W.c W.pac F ⟨rfl, rfl, rfl, by decide +kernel, rfl, by decide +kernel, by decide +kernel⟩ row_ok rfl rfl rfl (W.no (by decide +kernel) ft_given) rfl rfl
  · obtain ⟨oc, od, kV, doc, pm, an, cdv, ct, osl, rfl⟩ := fun_none F
    intro s x us ws h1 h2
    match us, ws, h1, h2 with
    | [u0], [], _, _ => exact BindsTo.of_eq (by kernel_rfl)
  · obtain ⟨oc, od, kV, doc, pm, an, cdv, ct, osl, rfl⟩ := fun_none F
    intro s x us ws h1 h2
    match us, ws, h1, h2 with
    | [], [w0], _, _ => exact BindsTo.of_eq (by kernel_rfl)
theorem mk_21 (W : Ev K mg) : Mk1 P w K mg base 21 := by
  obtain ⟨fd, F⟩ := W.ini 21 (by decide)
  refine ⟨fd, ⟨W.c, W.g 21 (by decide), _, W.fi 21 (by decide), W.ft 21 (by decide), ?_⟩, ?_, ?_⟩
  · exact ok_init1 W.c W.pac F ⟨rfl, rfl, rfl, by decide +kernel, rfl, by decide +kernel, by decide +kernel⟩ row_ok rfl rfl rfl (W.no (by decide +kernel) ft_given) rfl rfl
  · obtain ⟨oc, od, kV, doc, pm, an, cdv, ct, osl, rfl⟩ := fun_none F
    intro s x us ws h1 h2
    match us, ws, h1, h2 with
    | [u0], [], _, _ => exact BindsTo.of_eq (by kernel_rfl)
  · obtain ⟨oc, od, kV, doc, pm, an, cdv, ct, osl, rfl⟩ := fun_none F
    intro s x us ws h1 h2
    match us, ws, h1, h2 with
    | [], [w0], _, _ => exact BindsTo.of_eq (by kernel_rfl)
theorem mk_22 (W : Ev K mg) : Mk1 P w K mg base 22 := by
  obtain ⟨fd, F⟩ := W.ini 22 (by decide)
  refine ⟨fd, ⟨W.c, W.g 22 (by decide), _, W.fi 22 (by decide), W.ft 22 (by decide), ?_⟩, ?_, ?_⟩
  · exact ok_init1 W.c W.pac F ⟨rfl, rfl, rfl, by decide +kernel, rfl, by decide +kernel, by decide +kernel⟩ row_ok rfl rfl rfl (W.no (by decide +kernel) ft_given) rfl rfl
  · obtain ⟨oc, od, kV, doc, pm, an, cdv, ct, osl, rfl⟩ := fun_none F
    intro s x us ws h1 h2
    match us, ws, h1, h2 with
    | [u0], [], _, _ => exact BindsTo.of_eq (by kernel_rfl)
  · obtain ⟨oc, od, kV, doc, pm, an, cdv, ct, osl, rfl⟩ := fun_none F
    intro s x us ws h1 h2
    match us, ws, h1, h2 with
    | [], [w0], _, _ => exact BindsTo.of_eq (by kernel_rfl)
theorem mk_23 (W : Ev K mg) : Mk1 P w K mg base 23 := by
  obtain ⟨fd, F⟩ := W.ini 23 (by decide)
  refine ⟨fd, ⟨W.c, W.g 23 (by decide), _, W.fi 23 (by decide), W.ft 23 (by decide), ?_⟩, ?_, ?_⟩
  · exact ok_init1 W.c W.pac F ⟨rfl, rfl, rfl, by decide +kernel, rfl, by decide +kernel, by decide +kernel⟩ row_ok rfl rfl rfl (W.no (by decide +kernel) ft_given) rfl rfl
  · obtain ⟨oc, od, kV, doc, pm, an, cdv, ct, osl, rfl⟩ := fun_none F
    intro s x us ws h1 h2
    match us, ws, h1, h2 with
    | [u0], [], _, _ => exact BindsTo.of_eq (by kernel_rfl)
  · obtain ⟨oc, od, kV, doc, pm, an, cdv, ct, osl, rfl⟩ := fun_none F
    intro s x us ws h1 h2
    match us, ws, h1, h2 with
    | [], [w0], _, _ => exact BindsTo.of_eq (by kernel_rfl)
theorem mk_24 (W : Ev K mg) : Mk1 P w K mg base 24 := by
  obtain ⟨fd, F⟩ := W.ini 24 (by decide)
  refine ⟨fd, ⟨W.c, W.g 24 (by decide), _, W.fi 24 (by decide), W.ft 24 (by decide), ?_⟩, ?_, ?_⟩
  · exact ok_init1 W.c W.pac F ⟨rfl, rfl, rfl, by decide +kernel, rfl, by decide +kernel, by decide +kernel⟩ row_ok rfl rfl rfl (W.no (by decide +kernel) ft_given) rfl rfl
  · obtain ⟨oc, od, kV, doc, pm, an, cdv, ct, osl, rfl⟩ := fun_none F
    intro s x us ws h1 h2
    match us, ws, h1, h2 with
    | [u0], [], _, _ => exact BindsTo.of_eq (by kernel_rfl)
  · obtain ⟨oc, od, kV, doc, pm, an, cdv, ct, osl, rfl⟩ := fun_none F
    intro s x us ws h1 h2
    match us, ws, h1, h2 with
    | [], [w0], _, _ => exact BindsTo.of_eq (by kernel_rfl)
theorem mk_25 (W : Ev K mg) : Mk1 P w K mg base 25 := by
  obtain ⟨fd, F⟩ := W.ini 25 (by decide)
  refine ⟨fd, ⟨W.c, W.g 25 (by decide), _, W.fi 25 (by decide), W.ft 25 (by decide), ?_⟩, ?_, ?_⟩
  · exact ok_init1 W.c W.pac F ⟨rfl, rfl, rfl, by decide +kernel, rfl, by decide +kernel, by decide +kernel⟩ row_ok rfl rfl rfl (W.no (by decide +kernel) ft_given) rfl rfl
  · obtain ⟨oc, od, kV, doc, pm, an, cdv, ct, osl, rfl⟩ := fun_none F
    intro s x us ws h1 h2
    match us, ws, h1, h2 with
    | [u0], [], _, _ => exact BindsTo.of_eq (by kernel_rfl)
  · obtain ⟨oc, od, kV, doc, pm, an, cdv, ct, osl, rfl⟩ := fun_none F
    intro s x us ws h1 h2
    match us, ws, h1, h2 with
    | [], [w0], _, _ => exact BindsTo.of_eq (by kernel_rfl)
theorem mk_26 (W : Ev K mg) : Mk1 P w K mg base 26 := by
  obtain ⟨fd, F⟩ := W.ini 26 (by decide)
  refine ⟨fd, ⟨W.c, W.g 26 (by decide), _, W.fi 26 (by decide), W.ft 26 (by decide), ?_⟩, ?_, ?_⟩
  · exact ok_init1 W.c W.pac F ⟨rfl, rfl, rfl, by decide +kernel, rfl, by decide +kernel, by decide +kernel⟩ row_ok rfl rfl rfl (W.no (by decide +kernel) ft_given) rfl rfl
  · obtain ⟨oc, od, kV, doc, pm, an, cdv, ct, osl, rfl⟩ := fun_none F
    intro s x us ws h1 h2
    match us, ws, h1, h2 with
    | [u0], [], _, _ => exact BindsTo.of_eq (by kernel_rfl)
  · obtain ⟨oc, od, kV, doc, pm, an, cdv, ct, osl, rfl⟩ := fun_none F
    intro s x us ws h1 h2
    match us, ws, h1, h2 with
    | [], [w0], _, _ => exact BindsTo.of_eq (by kernel_rfl)
theorem mk_27 (W : Ev K mg) : Mk1 P w K mg base 27 := by
  obtain ⟨fd, F⟩ := W.ini 27 (by decide)
  refine ⟨fd, ⟨W.c, W.g 27 (by decide), _, W.fi 27 (by decide), W.ft 27 (by decide), ?_⟩, ?_, ?_⟩
  · exact ok_init1 W.c W.pac F ⟨rfl, rfl, rfl, by decide +kernel, rfl, by decide +kernel, by decide +kernel⟩ row_ok rfl rfl rfl (W.no (by decide +kernel) ft_given) rfl rfl
  · obtain ⟨oc, od, kV, doc, pm, an, cdv, ct, osl, rfl⟩ := fun_none F
    intro s x us ws h1 h2
    match us, ws, h1, h2 with
    | [u0], [], _, _ => exact BindsTo.of_eq (by kernel_rfl)
  · obtain ⟨oc, od, kV, doc, pm, an, cdv, ct, osl, rfl⟩ := fun_none F
    intro s x us ws h1 h2
    match us, ws, h1, h2 with
    | [], [w0], _, _ => exact BindsTo.of_eq (by kernel_rfl)
theorem mk_28 (W : Ev K mg) : Mk1 P w K mg base 28 := by
  obtain ⟨fd, F⟩ := W.ini 28 (by decide)
  refine ⟨fd, ⟨W.c, W.g 28 (by decide), _, W.fi 28 (by decide), W.ft 28 (by decide), ?_⟩, ?_, ?_⟩
  · exact ok_init1 W.c W.pac F ⟨rfl, rfl, rfl, by decide +kernel, rfl, by decide +kernel, by decide +kernel⟩ row_ok rfl rfl rfl (W.no (by decide +kernel) ft_given) rfl rfl
  · obtain ⟨oc, od, kV, doc, pm, an, cdv, ct, osl, rfl⟩ := fun_none F
    intro s x us ws h1 h2
    match us, ws, h1, h2 with
    | [u0], [], _, _ => exact BindsTo.of_eq (by kernel_rfl)
  · obtain ⟨oc, od, kV, doc, pm, an, cdv, ct, osl, rfl⟩ := fun_none F
    intro s x us ws h1 h2
    match us, ws, h1, h2 with
    | [], [w0], _, _ => exact BindsTo.of_eq (by kernel_rfl)
theorem mk_29 (W : Ev K mg) : Mk1 P w K mg base 29 := by
  obtain ⟨fd, F⟩ := W.ini 29 (by decide)
  refine ⟨fd, ⟨W.c, W.g 29 (by decide), _, W.fi 29 (by decide), W.ft 29 (by decide), ?_⟩, ?_, ?_⟩
  · exact ok_init1 W.c W.pac F ⟨rfl, rfl, rfl, by decide +kernel, rfl, by decide +kernel, by decide +kernel⟩ row_ok rfl rfl rfl (W.no (by decide +kernel) ft_given) rfl rfl
  · obtain ⟨oc, od, kV, doc, pm, an, cdv, ct, osl, rfl⟩ := fun_none F
    intro s x us ws h1 h2
    match us, ws, h1, h2 with
    | [u0], [], _, _ => exact BindsTo.of_eq (by kernel_rfl)
  · obtain ⟨oc, od, kV, doc, pm, an, cdv, ct, osl, rfl⟩ := fun_none F
    intro s x us ws h1 h2
    match us, ws, h1, h2 with
    | [], [w0], _, _ => exact BindsTo.of_eq (by kernel_rfl)
theorem mk_30 (W : Ev K mg) : Mk1 P w K mg base 30 := by
  obtain ⟨fd, F⟩ := W.ini 30 (by decide)
  refine ⟨fd, ⟨W.c, W.g 30 (by decide), _, W.fi 30 (by decide), W.ft 30 (by decide), ?_⟩, ?_, ?_⟩
  · exact ok_init1 W.c W.pac F ⟨rfl, rfl, rfl, by decide +kernel, rfl, by decide +kernel, by decide +kernel⟩ row_ok rfl rfl rfl (W.no (by decide +kernel) ft_given) rfl rfl
  · obtain ⟨oc, od, kV, doc, pm, an, cdv, ct, osl, rfl⟩ := fun_none F
    intro s x us ws h1 h2
    match us, ws, h1, h2 with
    | [u0], [], _, _ => exact BindsTo.of_eq (by kernel_rfl)
  · obtain ⟨oc, od, kV, doc, pm, an, cdv, ct, osl, rfl⟩ := fun_none F
    intro s x us ws h1 h2
    match us, ws, h1, h2 with
    | [], [w0], _, _ => exact BindsTo.of_eq (by kernel_rfl)
theorem mk_31 (W : Ev K mg) : Mk1 P w K mg base 31 := by
  obtain ⟨fd, F⟩ := W.ini 31 (by decide)
  refine ⟨fd, ⟨W.c, W.g 31 (by decide), _, W.fi 31 (by decide), W.ft 31 (by decide), ?_⟩, ?_, ?_⟩
  · exact ok_init1 W.c W.pac F ⟨rfl, rfl, rfl, by decide +kernel, rfl, by decide +kernel, by decide +kernel⟩ row_ok rfl rfl rfl (W.no (by decide +kernel) ft_given) rfl rfl
  · obtain ⟨oc, od, kV, doc, pm, an, cdv, ct, osl, rfl⟩ := fun_none F
    intro s x us ws h1 h2
    match us, ws, h1, h2 with
    | [u0], [], _, _ => exact BindsTo.of_eq (by kernel_rfl)
  · obtain ⟨oc, od, kV, doc, pm, an, cdv, ct, osl, rfl⟩ := fun_none F
    intro s x us ws h1 h2
    match us, ws, h1, h2 with
    | [], [w0], _, _ => exact BindsTo.of_eq (by kernel_rfl)
theorem mk_32 (W : Ev K mg) : Mk1 P w K mg base 32 := by
  obtain ⟨fd, F⟩ := W.ini 32 (by decide)
  refine ⟨fd, ⟨W.c, W.g 32 (by decide), _, W.fi 32 (by decide), W.ft 32 (by decide), ?_⟩, ?_, ?_⟩
  · exact ok_init1 W.c W.pac F ⟨rfl, rfl, rfl, by decide +kernel, rfl, by decide +kernel, by decide +kernel⟩ row_ok rfl rfl rfl (W.no (by decide +kernel) ft_payoff) rfl rfl
  · obtain ⟨oc, od, kV, doc, pm, an, cdv, ct, osl, rfl⟩ := fun_none F
    intro s x us ws h1 h2
    match us, ws, h1, h2 with
    | [u0], [], _, _ => exact BindsTo.of_eq (by kernel_rfl)
  · obtain ⟨oc, od, kV, doc, pm, an, cdv, ct, osl, rfl⟩ := fun_none F
    intro s x us ws h1 h2
    match us, ws, h1, h2 with
    | [], [w0], _, _ => exact BindsTo.of_eq (by kernel_rfl)
theorem mk_33 (W : Ev K mg) : Mk1 P w K mg base 33 := by
  obtain ⟨fd, F⟩ := W.ini 33 (by decide)
  refine ⟨fd, ⟨W.c, W.g 33 (by decide), _, W.fi 33 (by decide), W.ft 33 (by decide), ?_⟩, ?_, ?_⟩
  · exact ok_init1 W.c W.pac F ⟨rfl, rfl, rfl, by decide +kernel, rfl, by decide +kernel, by decide +kernel⟩ row_ok rfl rfl rfl (W.no (by decide +kernel) ft_payoff) rfl rfl
  · obtain ⟨oc, od, kV, doc, pm, an, cdv, ct, osl, rfl⟩ := fun_none F
    intro s x us ws h1 h2
    match us, ws, h1, h2 with
    | [u0], [], _, _ => exact BindsTo.of_eq (by kernel_rfl)
  · obtain ⟨oc, od, kV, doc, pm, an, cdv, ct, osl, rfl⟩ := fun_none F
    intro s x us ws h1 h2
    match us, ws, h1, h2 with
    | [], [w0], _, _ => exact BindsTo.of_eq (by kernel_rfl)
theorem mk_34 (W : Ev K mg) : Mk1 P w K mg base 34 := by
  obtain ⟨fd, F⟩ := W.ini 34 (by decide)
  refine ⟨fd, ⟨W.c, W.g 34 (by decide), _, W.fi 34 (by decide), W.ft 34 (by decide), ?_⟩, ?_, ?_⟩
  · exact ok_init1 W.c W.pac F ⟨rfl, rfl, rfl, by decide +kernel, rfl, by decide +kernel, by decide +kernel⟩ row_ok rfl rfl rfl (W.no (by decide +kernel) ft_count) rfl rfl
  · obtain ⟨oc, od, kV, doc, pm, an, cdv, ct, osl, rfl⟩ := fun_none F
    intro s x us ws h1 h2
    match us, ws, h1, h2 with
    | [u0], [], _, _ => exact BindsTo.of_eq (by kernel_rfl)
  · obtain ⟨oc, od, kV, doc, pm, an, cdv, ct, osl, rfl⟩ := fun_none F
    intro s x us ws h1 h2
    match us, ws, h1, h2 with
    | [], [w0], _, _ => exact BindsTo.of_eq (by kernel_rfl)
theorem mk_35 (W : Ev K mg) : Mk1 P w K mg base 35 := by
  obtain ⟨fd, F⟩ := W.ini 35 (by decide)
  refine ⟨fd, ⟨W.c, W.g 35 (by decide), _, W.fi 35 (by decide), W.ft 35 (by decide), ?_⟩, ?_, ?_⟩
  · exact ok_init1 W.c W.pac F ⟨rfl, rfl, rfl, by decide +kernel, rfl, by decide +kernel, by decide +kernel⟩ row_ok rfl rfl rfl (W.no (by decide +kernel) ft_name) rfl rfl
  · obtain ⟨oc, od, kV, doc, pm, an, cdv, ct, osl, rfl⟩ := fun_none F
    intro s x us ws h1 h2
    match us, ws, h1, h2 with
    | [u0], [], _, _ => exact BindsTo.of_eq (by kernel_rfl)
  · obtain ⟨oc, od, kV, doc, pm, an, cdv, ct, osl, rfl⟩ := fun_none F
    intro s x us ws h1 h2
    match us, ws, h1, h2 with
    | [], [w0], _, _ => exact BindsTo.of_eq (by kernel_rfl)
theorem mk_36 (W : Ev K mg) : ∃ fd, ErM P w K mg base (nmE 36) (ad K 36) (fsE 36) fd ∧ EBind fd ("self" :: fsE 36) 1 ["column"] [0, 1] ∧ EBind fd ("self" :: fsE 36) 2 [] [0, 1] ∧ EBind fd ("self" :: fsE 36) 0 ["line", "column"] [0, 1] ∧ EBind fd ("self" :: fsE 36) 0 ["column", "line"] [1, 0] := by
  obtain ⟨fd, F⟩ := W.ini 36 (by decide)
  refine ⟨fd, ⟨W.c, W.g 36 (by decide), _, W.fi 36 (by decide), W.ft 36 (by decide), ?_⟩, ?_, ?_, ?_, ?_⟩
  · exact ok_init2 W.c W.pac F ⟨rfl, rfl, rfl, by decide +kernel, rfl, by decide +kernel, by decide +kernel⟩ row_ok rfl rfl rfl (W.no (by decide +kernel) ft_line) rfl rfl rfl (W.no (by decide +kernel) ft_column) rfl rfl
  · obtain ⟨oc, od, kV, doc, pm, an, cdv, ct, osl, rfl⟩ := fun_none F
    intro s x us ws h1 h2
    match us, ws, h1, h2 with
    | [u0], [w0], _, _ => exact BindsTo.of_eq (by kernel_rfl)
  · obtain ⟨oc, od, kV, doc, pm, an, cdv, ct, osl, rfl⟩ := fun_none F
    intro s x us ws h1 h2
    match us, ws, h1, h2 with
    | [u0, u1], [], _, _ => exact BindsTo.of_eq (by kernel_rfl)
  · obtain ⟨oc, od, kV, doc, pm, an, cdv, ct, osl, rfl⟩ := fun_none F
    intro s x us ws h1 h2
    match us, ws, h1, h2 with
    | [], [w0, w1], _, _ => exact BindsTo.of_eq (by kernel_rfl)
  · obtain ⟨oc, od, kV, doc, pm, an, cdv, ct, osl, rfl⟩ := fun_none F
    intro s x us ws h1 h2
    match us, ws, h1, h2 with
    | [], [w0, w1], _, _ => exact BindsTo.of_eq (by kernel_rfl)
theorem mk_37 (W : Ev K mg) : ∃ fd, ErM P w K mg base (nmE 37) (ad K 37) (fsE 37) fd ∧ EBind fd ("self" :: fsE 37) 1 ["store"] [0, 1] ∧ EBind fd ("self" :: fsE 37) 2 [] [0, 1] ∧ EBind fd ("self" :: fsE 37) 0 ["unit", "store"] [0, 1] ∧ EBind fd ("self" :: fsE 37) 0 ["store", "unit"] [1, 0] := by
  obtain ⟨fd, F⟩ := W.ini 37 (by decide)
  refine ⟨fd, ⟨W.c, W.g 37 (by decide), _, W.fi 37 (by decide), W.ft 37 (by decide), ?_⟩, ?_, ?_, ?_, ?_⟩
  · exact ok_init2 W.c W.pac F ⟨rfl, rfl, rfl, by decide +kernel, rfl, by decide +kernel, by decide +kernel⟩ row_ok rfl rfl rfl (W.no (by decide +kernel) ft_unit) rfl rfl rfl (W.no (by decide +kernel) ft_store) rfl rfl
  · obtain ⟨oc, od, kV, doc, pm, an, cdv, ct, osl, rfl⟩ := fun_none F
    intro s x us ws h1 h2
    match us, ws, h1, h2 with
    | [u0], [w0], _, _ => exact BindsTo.of_eq (by kernel_rfl)
  · obtain ⟨oc, od, kV, doc, pm, an, cdv, ct, osl, rfl⟩ := fun_none F
    intro s x us ws h1 h2
    match us, ws, h1, h2 with
    | [u0, u1], [], _, _ => exact BindsTo.of_eq (by kernel_rfl)
  · obtain ⟨oc, od, kV, doc, pm, an, cdv, ct, osl, rfl⟩ := fun_none F
    intro s x us ws h1 h2
    match us, ws, h1, h2 with
    | [], [w0, w1], _, _ => exact BindsTo.of_eq (by kernel_rfl)
  · obtain ⟨oc, od, kV, doc, pm, an, cdv, ct, osl, rfl⟩ := fun_none F
    intro s x us ws h1 h2
    match us, ws, h1, h2 with
    | [], [w0, w1], _, _ => exact BindsTo.of_eq (by kernel_rfl)
theorem mk_38 (W : Ev K mg) : ∃ fd, ErM P w K mg base (nmE 38) (ad K 38) (fsE 38) fd ∧ EBind fd ("self" :: fsE 38) 2 ["word"] [0, 1, 2] ∧ EBind fd ("self" :: fsE 38) 3 [] [0, 1, 2] ∧ EBind fd ("self" :: fsE 38) 0 ["reason", "unit", "word"] [0, 1, 2] ∧ EBind fd ("self" :: fsE 38) 0 ["word", "unit", "reason"] [2, 1, 0] := by
  obtain ⟨fd, F⟩ := W.ini 38 (by decide)
  refine ⟨fd, ⟨W.c, W.g 38 (by decide), _, W.fi 38 (by decide), W.ft 38 (by decide), ?_⟩, ?_, ?_, ?_, ?_⟩
  · exact ok_init3 W.c W.pac F ⟨rfl, rfl, rfl, by decide +kernel, rfl, by decide +kernel, by decide +kernel⟩ row_ok rfl rfl rfl (W.no (by decide +kernel) ft_reason) rfl rfl rfl (W.no (by decide +kernel) ft_unit) rfl rfl rfl (W.no (by decide +kernel) ft_word) rfl rfl
  · obtain ⟨oc, od, kV, doc, pm, an, cdv, ct, osl, rfl⟩ := fun_none F
    intro s x us ws h1 h2
    match us, ws, h1, h2 with
    | [u0, u1], [w0], _, _ => exact BindsTo.of_eq (by kernel_rfl)
  · obtain ⟨oc, od, kV, doc, pm, an, cdv, ct, osl, rfl⟩ := fun_none F
    intro s x us ws h1 h2
    match us, ws, h1, h2 with
    | [u0, u1, u2], [], _, _ => exact BindsTo.of_eq (by kernel_rfl)
  · obtain ⟨oc, od, kV, doc, pm, an, cdv, ct, osl, rfl⟩ := fun_none F
    intro s x us ws h1 h2
    match us, ws, h1, h2 with
    | [], [w0, w1, w2], _, _ => exact BindsTo.of_eq (by kernel_rfl)
  · obtain ⟨oc, od, kV, doc, pm, an, cdv, ct, osl, rfl⟩ := fun_none F
    intro s x us ws h1 h2
    match us, ws, h1, h2 with
    | [], [w0, w1, w2], _, _ => exact BindsTo.of_eq (by kernel_rfl)
theorem mk_39 (W : Ev K mg) : ∃ fd, ErM P w K mg base (nmE 39) (ad K 39) (fsE 39) fd ∧ EBind fd ("self" :: fsE 39) 3 [] [0, 1, 2] ∧ EBind fd ("self" :: fsE 39) 1 ["harm", "store"] [0, 2, 1] ∧ EBind fd ("self" :: fsE 39) 0 ["side", "store", "harm"] [0, 1, 2] ∧ EBind fd ("self" :: fsE 39) 0 ["harm", "store", "side"] [2, 1, 0] := by
  obtain ⟨fd, F⟩ := W.ini 39 (by decide)
  refine ⟨fd, ⟨W.c, W.g 39 (by decide), _, W.fi 39 (by decide), W.ft 39 (by decide), ?_⟩, ?_, ?_, ?_, ?_⟩
  · exact ok_init3 W.c W.pac F ⟨rfl, rfl, rfl, by decide +kernel, rfl, by decide +kernel, by decide +kernel⟩ row_ok rfl rfl rfl (W.no (by decide +kernel) ft_side) rfl rfl rfl (W.no (by decide +kernel) ft_store) rfl rfl rfl (W.no (by decide +kernel) ft_harm) rfl rfl
  · obtain ⟨oc, od, kV, doc, pm, an, cdv, ct, osl, rfl⟩ := fun_none F
    intro s x us ws h1 h2
    match us, ws, h1, h2 with
    | [u0, u1, u2], [], _, _ => exact BindsTo.of_eq (by kernel_rfl)
  · obtain ⟨oc, od, kV, doc, pm, an, cdv, ct, osl, rfl⟩ := fun_none F
    intro s x us ws h1 h2
    match us, ws, h1, h2 with
    | [u0], [w0, w1], _, _ => exact BindsTo.of_eq (by kernel_rfl)
  · obtain ⟨oc, od, kV, doc, pm, an, cdv, ct, osl, rfl⟩ := fun_none F
    intro s x us ws h1 h2
    match us, ws, h1, h2 with
    | [], [w0, w1, w2], _, _ => exact BindsTo.of_eq (by kernel_rfl)
  · obtain ⟨oc, od, kV, doc, pm, an, cdv, ct, osl, rfl⟩ := fun_none F
    intro s x us ws h1 h2
    match us, ws, h1, h2 with
    | [], [w0, w1, w2], _, _ => exact BindsTo.of_eq (by kernel_rfl)
theorem mk_40 (W : Ev K mg) : ∃ fd, ErM P w K mg base (nmE 40) (ad K 40) (fsE 40) fd ∧ EBind fd ("self" :: fsE 40) 2 ["count", "side"] [0, 1, 3, 2] ∧ EBind fd ("self" :: fsE 40) 4 [] [0, 1, 2, 3] ∧ EBind fd ("self" :: fsE 40) 0 ["unit", "store", "side", "count"] [0, 1, 2, 3] ∧ EBind fd ("self" :: fsE 40) 0 ["count", "side", "store", "unit"] [3, 2, 1, 0] ∧ EBind fd ("self" :: fsE 40) 0 ["count", "store", "unit", "side"] [2, 1, 3, 0] := by
  obtain ⟨fd, F⟩ := W.ini 40 (by decide)
  refine ⟨fd, ⟨W.c, W.g 40 (by decide), _, W.fi 40 (by decide), W.ft 40 (by decide), ?_⟩, ?_, ?_, ?_, ?_, ?_⟩
  · exact ok_init4 W.c W.pac F ⟨rfl, rfl, rfl, by decide +kernel, rfl, by decide +kernel, by decide +kernel⟩ row_ok rfl rfl rfl (W.no (by decide +kernel) ft_unit) rfl rfl rfl (W.no (by decide +kernel) ft_store) rfl rfl rfl (W.no (by decide +kernel) ft_side) rfl rfl rfl (W.no (by decide +kernel) ft_count) rfl rfl
  · obtain ⟨oc, od, kV, doc, pm, an, cdv, ct, osl, rfl⟩ := fun_none F
    intro s x us ws h1 h2
    match us, ws, h1, h2 with
    | [u0, u1], [w0, w1], _, _ => exact BindsTo.of_eq (by kernel_rfl)
  · obtain ⟨oc, od, kV, doc, pm, an, cdv, ct, osl, rfl⟩ := fun_none F
    intro s x us ws h1 h2
    match us, ws, h1, h2 with
    | [u0, u1, u2, u3], [], _, _ => exact BindsTo.of_eq (by kernel_rfl)
  · obtain ⟨oc, od, kV, doc, pm, an, cdv, ct, osl, rfl⟩ := fun_none F
    intro s x us ws h1 h2
    match us, ws, h1, h2 with
    | [], [w0, w1, w2, w3], _, _ => exact BindsTo.of_eq (by kernel_rfl)
  · obtain ⟨oc, od, kV, doc, pm, an, cdv, ct, osl, rfl⟩ := fun_none F
    intro s x us ws h1 h2
    match us, ws, h1, h2 with
    | [], [w0, w1, w2, w3], _, _ => exact BindsTo.of_eq (by kernel_rfl)
  · obtain ⟨oc, od, kV, doc, pm, an, cdv, ct, osl, rfl⟩ := fun_none F
    intro s x us ws h1 h2
    match us, ws, h1, h2 with
    | [], [w0, w1, w2, w3], _, _ => exact BindsTo.of_eq (by kernel_rfl)
theorem mk_41 (W : Ev K mg) : ∃ fd, ErM P w K mg base (nmE 41) (ad K 41) (fsE 41) fd ∧ EBind fd ("self" :: fsE 41) 2 ["answer", "plan", "payoff"] [0, 1, 3, 4, 2] ∧ EBind fd ("self" :: fsE 41) 5 [] [0, 1, 2, 3, 4] ∧ EBind fd ("self" :: fsE 41) 0 ["side", "store", "plan", "payoff", "answer"] [0, 1, 2, 3, 4] ∧ EBind fd ("self" :: fsE 41) 0 ["answer", "payoff", "plan", "store", "side"] [4, 3, 2, 1, 0] ∧ EBind fd ("self" :: fsE 41) 1 ["store", "plan", "payoff", "answer"] [0, 1, 2, 3, 4] := by
  obtain ⟨fd, F⟩ := W.ini 41 (by decide)
  refine ⟨fd, ⟨W.c, W.g 41 (by decide), _, W.fi 41 (by decide), W.ft 41 (by decide), ?_⟩, ?_, ?_, ?_, ?_, ?_⟩
  · exact ok_init5 W.c W.pac F ⟨rfl, rfl, rfl, by decide +kernel, rfl, by decide +kernel, by decide +kernel⟩ row_ok rfl rfl rfl (W.no (by decide +kernel) ft_side) rfl rfl rfl (W.no (by decide +kernel) ft_store) rfl rfl rfl (W.no (by decide +kernel) ft_plan) rfl rfl rfl (W.no (by decide +kernel) ft_payoff) rfl rfl rfl (W.no (by decide +kernel) ft_answer) rfl rfl
  · obtain ⟨oc, od, kV, doc, pm, an, cdv, ct, osl, rfl⟩ := fun_none F
    intro s x us ws h1 h2
    match us, ws, h1, h2 with
    | [u0, u1], [w0, w1, w2], _, _ => exact BindsTo.of_eq (by kernel_rfl)
  · obtain ⟨oc, od, kV, doc, pm, an, cdv, ct, osl, rfl⟩ := fun_none F
    intro s x us ws h1 h2
    match us, ws, h1, h2 with
    | [u0, u1, u2, u3, u4], [], _, _ => exact BindsTo.of_eq (by kernel_rfl)
  · obtain ⟨oc, od, kV, doc, pm, an, cdv, ct, osl, rfl⟩ := fun_none F
    intro s x us ws h1 h2
    match us, ws, h1, h2 with
    | [], [w0, w1, w2, w3, w4], _, _ => exact BindsTo.of_eq (by kernel_rfl)
  · obtain ⟨oc, od, kV, doc, pm, an, cdv, ct, osl, rfl⟩ := fun_none F
    intro s x us ws h1 h2
    match us, ws, h1, h2 with
    | [], [w0, w1, w2, w3, w4], _, _ => exact BindsTo.of_eq (by kernel_rfl)
  · obtain ⟨oc, od, kV, doc, pm, an, cdv, ct, osl, rfl⟩ := fun_none F
    intro s x us ws h1 h2
    match us, ws, h1, h2 with
    | [u0], [w0, w1, w2, w3], _, _ => exact BindsTo.of_eq (by kernel_rfl)
theorem mk_42 (W : Ev K mg) : ∃ fd, ErM P w K mg base (nmE 42) (ad K 42) (fsE 42) fd ∧ EBind fd ("self" :: fsE 42) 0 [] [] := by
  obtain ⟨fd, F⟩ := W.ini 42 (by decide)
  refine ⟨fd, ⟨W.c, W.g 42 (by decide), _, W.fi 42 (by decide), W.ft 42 (by decide), ?_⟩, ?_⟩
  · exact ok_init0 W.c W.pac F ⟨rfl, rfl, rfl, by decide +kernel, rfl, by decide +kernel, by decide +kernel⟩ row_ok rfl rfl
  · obtain ⟨oc, od, kV, doc, pm, an, cdv, ct, osl, rfl⟩ := fun_none F
    intro s x us ws h1 h2
    match us, ws, h1, h2 with
    | [], [], _, _ => exact BindsTo.of_eq (by kernel_rfl)
theorem mk_43 (W : Ev K mg) : ∃ fd, ErM P w K mg base (nmE 43) (ad K 43) (fsE 43) fd ∧ EBind fd ("self" :: fsE 43) 0 [] [] := by
  obtain ⟨fd, F⟩ := W.ini 43 (by decide)
  refine ⟨fd, ⟨W.c, W.g 43 (by decide), _, W.fi 43 (by decide), W.ft 43 (by decide), ?_⟩, ?_⟩
  · exact ok_init0 W.c W.pac F ⟨rfl, rfl, rfl, by decide +kernel, rfl, by decide +kernel, by decide +kernel⟩ row_ok rfl rfl
  · obtain ⟨oc, od, kV, doc, pm, an, cdv, ct, osl, rfl⟩ := fun_none F
    intro s x us ws h1 h2
    match us, ws, h1, h2 with
    | [], [], _, _ => exact BindsTo.of_eq (by kernel_rfl)
theorem mk_44 (W : Ev K mg) : ∃ fd, ErM P w K mg base (nmE 44) (ad K 44) (fsE 44) fd ∧ EBind fd ("self" :: fsE 44) 0 [] [] := by
  obtain ⟨fd, F⟩ := W.ini 44 (by decide)
  refine ⟨fd, ⟨W.c, W.g 44 (by decide), _, W.fi 44 (by decide), W.ft 44 (by decide), ?_⟩, ?_⟩
  · exact ok_init0 W.c W.pac F ⟨rfl, rfl, rfl, by decide +kernel, rfl, by decide +kernel, by decide +kernel⟩ row_ok rfl rfl
  · obtain ⟨oc, od, kV, doc, pm, an, cdv, ct, osl, rfl⟩ := fun_none F
    intro s x us ws h1 h2
    match us, ws, h1, h2 with
    | [], [], _, _ => exact BindsTo.of_eq (by kernel_rfl)
end
end EPL
-- part KB4
set_option maxHeartbeats 4000000
/-! B4: one error made, asked. -/
namespace EPL
open PySem PySem.Spec PyProof.Rows L2 L2H
/-- the error of the i-th class with these values -/
def RE (K : PySem.W.Frag) (H : Hp) (it : Nat × List V) (v : V) : Prop := ∃ a, v = .ref a ∧ ErrN H a (ad K it.1) ((fsE it.1).zip it.2).reverse
theorem re_grows {K : PySem.W.Frag} : Grows (RE K) := fun H H' i v s ⟨a, e, h⟩ => ⟨a, e, h.same s⟩
/-- these values stand in the first slots -/
def PreV (vs : List V) (σ : St) (_ : Hp) : Prop := ∀ (i : Nat) (v : V), vs[i]? = some v → σ[i]? = some (some v)
theorem prev_stay {vs : List V} {j : Nat} (h : vs.length ≤ j) : Stay j (PreV vs) := ⟨fun _ _ _ _ p => p, fun σ H v p => by
  intro i x e
  have l : i < vs.length := (List.getElem?_eq_some_iff.mp e).1
  rw [List.getElem?_set_ne (by omega)]
  exact p i x e⟩
theorem prev_start {N : List Str} {vs : List V} {H : Hp} : PreV vs (L2.start N vs) H := by
  intro i v e
  unfold L2.start
  rw [List.getElem?_append_left (by rw [List.length_map]; exact (List.getElem?_eq_some_iff.mp e).1), List.getElem?_map, e]
  rfl
section
variable {X : Cx} {i : Nat} {nm x : Str} {p q pos kp : Pos} {Pre : St → Hp → Prop} {v : V} {j : Nat}
theorem el_pos1 (M : Mk1 X.prog X.w X.K X.mg X.base i) (hr : Room 2 X.A) (hx : PE X (.Name x q) (tVar j)) (hp : ∀ σ H, Pre σ H → σ[j]? = some (some v)) (hg : Gl X nm) (e : nmE i = nm := by rfl) (hl : (fsE i).length = 1 := by rfl)
    (hdb : (nm == ("__debug__" : Str)) = false := by decide) (he : starEach [.Name x q] X.env = (false, eval (.Name x q) X.env) :: starEach [] X.env := by rfl) :
    PE X (.Call (.Name nm p) [.Name x q] [] pos) (tEl Pre (RE X.K) (i, [v])) := by
  obtain ⟨fd, m, b1, _⟩ := M
  subst e
  refine pe_imp (pe_err m hr b1 hg (pa_cons hx pa_nil he) pk_nil rfl rfl hdb he rfl) fun σ H Q h => ?_
  exact ⟨v, hp _ _ h.1, rfl, rfl, hl.symm, by decide, fun a H' s n e => h.2 _ _ s ⟨a, rfl, e⟩⟩
theorem el_kw1 {f : Str} (M : Mk1 X.prog X.w X.K X.mg X.base i) (hr : Room 2 X.A) (hx : PE X (.Name x q) (tVar j)) (hp : ∀ σ H, Pre σ H → σ[j]? = some (some v)) (hg : Gl X nm) (e : nmE i = nm := by rfl) (hl : fsE i = [f] := by rfl)
    (hdb : (nm == ("__debug__" : Str)) = false := by decide) :
    PE X (.Call (.Name nm p) [] [⟨some f, .Name x q, kp⟩] pos) (tEl Pre (RE X.K) (i, [v])) := by
  obtain ⟨fd, m, _, b1⟩ := M
  subst e
  rw [hl] at b1
  have l1 : (fsE i).length = 1 := by
    rw [hl] <;> rfl
  rw [← hl] at b1
  refine pe_imp (pe_errK (ks := fsE i) m hr b1 hg (pk_cons hx pk_nil) rfl (by rw [hl] <;> rfl) hdb rfl) fun σ H Q h => ?_
  exact ⟨v, hp _ _ h.1, rfl, l1.symm, l1.symm, by decide, fun a H' s n e => h.2 _ _ s ⟨a, rfl, e⟩⟩
/-- the error in slot j is of the k-th class, has these attributes -/
def PreE (K : PySem.W.Frag) (j k : Nat) (fs : List (Str × V)) (σ : St) (H : Hp) : Prop := ∃ a, σ[j]? = some (some (.ref a)) ∧ ErrF H a (ad K k) fs
theorem pree_stay {K : PySem.W.Frag} {j k l : Nat} {fs : List (Str × V)} (h : j ≠ l) : Stay l (PreE K j k fs) := ⟨fun _ _ _ s ⟨a, e, q⟩ => ⟨a, e, q.same s⟩, fun σ H v ⟨a, e, q⟩ => ⟨a, by rw [List.getElem?_set_ne h.symm]; exact e, q⟩⟩
def RI (k : Nat) (_ : Hp) (i : Nat) (v : V) : Prop := v = .bl (decide (k = i))
theorem ri_grows {k : Nat} : Grows (RI k) := fun _ _ _ _ _ h => h
/-- isinstance(e, C) -/
def tIsV (Pre : St → Hp → Prop) (k i : Nat) : TE := fun σ H Q => Pre σ H ∧ Q (.bl (decide (k = i))) H
theorem pe_is {k : Nat} {fs : List (Str × V)} {p1 p2 : Pos} (W : Ev X.K X.mg) (hk : k < 45) (hx : PE X (.Name x q) (tVar j)) (hgi : Gl X "isinstance") (hmi : X.mg "isinstance" = none) (hg : Gl X nm) (e : nmE i = nm := by rfl) (hi : i < 45 := by decide)
    (hdb : (nm == ("__debug__" : Str)) = false := by decide) (hn : nm ≠ "__name__" := by decide) (he : starEach [.Name x q, .Name nm p1] X.env = (false, eval (.Name x q) X.env) :: starEach [.Name nm p1] X.env := by rfl) (he2 : starEach [.Name nm p1] X.env = (false, eval (.Name nm p1) X.env) :: starEach [] X.env := by rfl) :
    PE X (.Call (.Name "isinstance" p2) [.Name x q, .Name nm p1] [] pos) (tIsV (PreE X.K j k fs) k i) := by
  have hm : X.mg nm = some (.ref (ad X.K i)) := e ▸ W.g i hi
  refine pe_imp (pe_callB call_isV hgi hmi (by decide +kernel) (pa_cons hx (pa_cons (pe_glob (v := .ref (ad X.K i)) hg hm rfl hdb) pa_nil he2) he)) fun σ H Q h => ?_
  obtain ⟨⟨a, e1, e2⟩, q⟩ := h
  exact ⟨.ref a, e1, a, _, fs, .ref (ad X.K i), .ref (ad X.K i), _, rfl, e2, W.c hk, fun u z => z, W.kit hk hi, q⟩
theorem el_is {k : Nat} {fs : List (Str × V)} {p1 p2 : Pos} (W : Ev X.K X.mg) (hk : k < 45) (hx : PE X (.Name x q) (tVar j)) (hgi : Gl X "isinstance") (hmi : X.mg "isinstance" = none) (hg : Gl X nm) (e : nmE i = nm := by rfl) (hi : i < 45 := by decide)
    (hdb : (nm == ("__debug__" : Str)) = false := by decide) (hn : nm ≠ "__name__" := by decide) (he : starEach [.Name x q, .Name nm p1] X.env = (false, eval (.Name x q) X.env) :: starEach [.Name nm p1] X.env := by rfl) (he2 : starEach [.Name nm p1] X.env = (false, eval (.Name nm p1) X.env) :: starEach [] X.env := by rfl) :
    PE X (.Call (.Name "isinstance" p2) [.Name x q, .Name nm p1] [] pos) (tEl (PreE X.K j k fs) (RI k) i) :=
  pe_imp (pe_is (fs := fs) (k := k) (p1 := p1) (p2 := p2) W hk hx hgi hmi hg e hi hdb hn he he2) fun σ H Q h => ⟨h.1, h.2 _ H (Same.refl H) rfl⟩
/-- if isinstance(e, C): .. -/
def tIs (Pre : St → Hp → Prop) (k i : Nat) : TT := fun σ H Q => Pre σ H ∧ Q (decide (k = i)) H
theorem pt_isC {k : Nat} {fs : List (Str × V)} {p1 p2 : Pos} (W : Ev X.K X.mg) (hk : k < 45) (hx : PE X (.Name x q) (tVar j)) (hgi : Gl X "isinstance") (hmi : X.mg "isinstance" = none) (hg : Gl X nm) (e : nmE i = nm := by rfl) (hi : i < 45 := by decide)
    (hdb : (nm == ("__debug__" : Str)) = false := by decide) (hn : nm ≠ "__name__" := by decide) (he : starEach [.Name x q, .Name nm p1] X.env = (false, eval (.Name x q) X.env) :: starEach [.Name nm p1] X.env := by rfl) (he2 : starEach [.Name nm p1] X.env = (false, eval (.Name nm p1) X.env) :: starEach [] X.env := by rfl)
    (hv : ∀ whole, isTrue (.Call (.Name "isinstance" p2) [.Name x q, .Name nm p1] [] pos) X.env whole = (do let v ← whole; standAt (Expr.Call (.Name "isinstance" p2) [.Name x q, .Name nm p1] [] pos).pos; holding [v] (truthy v)) := by intro _; rfl) :
    PT X (.Call (.Name "isinstance" p2) [.Name x q, .Name nm p1] [] pos) (tIs (PreE X.K j k fs) k i) := by
  have h := pt_val (pe_is (fs := fs) (k := k) (p1 := p1) (p2 := p2) W hk hx hgi hmi hg e hi hdb hn he he2) hv
  exact ⟨fun pins s σ H Q I q => h.run pins s σ H Q I ⟨q.1, _, rfl, q.2⟩⟩
/-- e.f -/
def tAtE (Pre : St → Hp → Prop) (f : Str) (fs : List (Str × V)) : TE := fun σ H Q => Pre σ H ∧ ∃ v, fs.lookup f = some v ∧ Q v H
theorem pe_at {k : Nat} {fs : List (Str × V)} {f : Str} (W : Ev X.K X.mg) (hk : k < 45) (hx : PE X (.Name x q) (tVar j)) (hf : f ∈ badN) (ha : PySem.W.alongIn X.K f PySem.PX.veTail = some none) (hb : attributeBase (.Name x q) f X.env (eval (.Name x q) X.env) = eval (.Name x q) X.env := by rfl) :
    PE X (.Attribute (.Name x q) f pos) (tAtE (PreE X.K j k fs) f fs) :=
  pe_imp (pe_erf hx hb) fun σ H Q h => by
    obtain ⟨⟨a, e1, e2⟩, v, l, q⟩ := h
    exact ⟨.ref a, e1, a, _, fs, v, rfl, e2, W.c hk, W.no hf ha hk, l, q⟩
end
end EPL
-- part KB5
set_option maxHeartbeats 4000000
/-! B5: _law_sorts, _law_by_place, _law_by_name. Printed by gen_kb5.py. -/
namespace EPL
open PySem PySem.Spec PyProof.Rows L2 L2H
section
variable {P : Program} {w : World} {K : PySem.W.Frag} {mg : Str → Option Value} {base : Heap}
abbrev FnT (K : PySem.W.Frag) (x : Str) (i : Nat) (f : Addr) (fd : FuncData) : Prop := FunD K x x (defArgs (top i)) (defBody (top i)) (defScope (top i)) [] [] f fd
theorem nd2 {a b : Str} (h : (a == b) = false) : [a, b].Nodup := by
  refine List.nodup_cons.mpr ⟨fun z => ?_, List.nodup_cons.mpr ⟨by simp, List.nodup_nil⟩⟩
  rw [List.mem_singleton] at z
  subst z
  rw [beq_self_eq_true] at h
  cases h
/-- what the sorts of an error of the k-th class are -/
def sortsOf (k : Nat) : List V := (List.range 45).map fun i => .bl (decide (k = i))
theorem a2_ri {k : Nat} {H : Hp} : ∀ {is : List Nat} {vs : List V}, A2 (RI k H) is vs → vs = is.map fun i => .bl (decide (k = i))
  | _, _, .nil => rfl
  | _, _, .cons a b => by
    rw [List.map_cons, ← a2_ri b, ← show _ = _ from a]
def spSorts (K : PySem.W.Frag) (_ : Around) : Sp := fun vs H Q _ => ∃ (k : Nat) (a : Addr) (fs : List (Str × V)), k < 45 ∧ vs = [.ref a] ∧ ErrF H a (ad K k) fs ∧ ∀ l H', Same H H' → H l = none → H' l = some (.lst (sortsOf k)) → Q (.ref l) H'
/-- all 36 errors of one value -/
def items36 (v : V) : List (Nat × List V) := (List.range 36).map fun i => (i, [v])
def spAll36 (K : PySem.W.Frag) (A : Around) : Sp := fun vs H Q _ => A.handled = none ∧ ∃ v, vs = [v] ∧ ∀ l H' ws, Same H H' → H l = none → H' l = some (.lst ws) → A2 (RE K H') (items36 v) ws → Q (.ref l) H'
theorem sc_sorts : FnScope ["e", "found"] ["e"] (defScope (top 77)) := ⟨rfl, rfl, rfl, by decide +kernel, rfl, by decide +kernel, by decide +kernel⟩
theorem ok_sorts {f : Addr} {fd : FuncData} (W : Ev K mg) (F : FnT K "_law_sorts" 77 f fd) (hmi : mg "isinstance" = none) : FnN P w K mg base 1 f fd ["e"] (spSorts K) := by
  refine fn_any F sc_sorts (fun A vs H Q E h => ?_) (fun cdv A outer s H vs Q E p hr h => ?_)
  · obtain ⟨k, a, fs, _, rfl, _⟩ := h
    rfl
  · obtain ⟨k, a, fs, hk, rfl, hE, q⟩ := h
    have st : Stay 1 (PreE K 0 k fs) := pree_stay (by decide)
    have gr : Grows (RI k) := ri_grows
    have nd : (["e", "found"] : List Str).Nodup := sc_sorts.nd
    refine ⟨_, (acc_first st gr nd rfl (Or.inl rfl) (els_cons st gr (el_is (i := 0) W hk (pv 0) rfl hmi rfl) (els_cons st gr (el_is (i := 1) W hk (pv 0) rfl hmi rfl) (els_cons st gr (el_is (i := 2) W hk (pv 0) rfl hmi rfl) els_nil)))
      (acc_mid st gr nd rfl (Or.inl rfl) (pv 1) (els_cons st gr (el_is (i := 3) W hk (pv 0) rfl hmi rfl) (els_cons st gr (el_is (i := 4) W hk (pv 0) rfl hmi rfl) (els_cons st gr (el_is (i := 5) W hk (pv 0) rfl hmi rfl) els_nil)))
      (acc_mid st gr nd rfl (Or.inl rfl) (pv 1) (els_cons st gr (el_is (i := 6) W hk (pv 0) rfl hmi rfl) (els_cons st gr (el_is (i := 7) W hk (pv 0) rfl hmi rfl) (els_cons st gr (el_is (i := 8) W hk (pv 0) rfl hmi rfl) els_nil)))
      (acc_mid st gr nd rfl (Or.inl rfl) (pv 1) (els_cons st gr (el_is (i := 9) W hk (pv 0) rfl hmi rfl) (els_cons st gr (el_is (i := 10) W hk (pv 0) rfl hmi rfl) (els_cons st gr (el_is (i := 11) W hk (pv 0) rfl hmi rfl) els_nil)))
      (acc_mid st gr nd rfl (Or.inl rfl) (pv 1) (els_cons st gr (el_is (i := 12) W hk (pv 0) rfl hmi rfl) (els_cons st gr (el_is (i := 13) W hk (pv 0) rfl hmi rfl) (els_cons st gr (el_is (i := 14) W hk (pv 0) rfl hmi rfl) els_nil)))
      (acc_mid st gr nd rfl (Or.inl rfl) (pv 1) (els_cons st gr (el_is (i := 15) W hk (pv 0) rfl hmi rfl) (els_cons st gr (el_is (i := 16) W hk (pv 0) rfl hmi rfl) (els_cons st gr (el_is (i := 17) W hk (pv 0) rfl hmi rfl) els_nil)))
      (acc_mid st gr nd rfl (Or.inl rfl) (pv 1) (els_cons st gr (el_is (i := 18) W hk (pv 0) rfl hmi rfl) (els_cons st gr (el_is (i := 19) W hk (pv 0) rfl hmi rfl) (els_cons st gr (el_is (i := 20) W hk (pv 0) rfl hmi rfl) els_nil)))
      (acc_mid st gr nd rfl (Or.inl rfl) (pv 1) (els_cons st gr (el_is (i := 21) W hk (pv 0) rfl hmi rfl) (els_cons st gr (el_is (i := 22) W hk (pv 0) rfl hmi rfl) (els_cons st gr (el_is (i := 23) W hk (pv 0) rfl hmi rfl) els_nil)))
      (acc_mid st gr nd rfl (Or.inl rfl) (pv 1) (els_cons st gr (el_is (i := 24) W hk (pv 0) rfl hmi rfl) (els_cons st gr (el_is (i := 25) W hk (pv 0) rfl hmi rfl) (els_cons st gr (el_is (i := 26) W hk (pv 0) rfl hmi rfl) els_nil)))
      (acc_mid st gr nd rfl (Or.inl rfl) (pv 1) (els_cons st gr (el_is (i := 27) W hk (pv 0) rfl hmi rfl) (els_cons st gr (el_is (i := 28) W hk (pv 0) rfl hmi rfl) (els_cons st gr (el_is (i := 29) W hk (pv 0) rfl hmi rfl) els_nil)))
      (acc_mid st gr nd rfl (Or.inl rfl) (pv 1) (els_cons st gr (el_is (i := 30) W hk (pv 0) rfl hmi rfl) (els_cons st gr (el_is (i := 31) W hk (pv 0) rfl hmi rfl) (els_cons st gr (el_is (i := 32) W hk (pv 0) rfl hmi rfl) els_nil)))
      (acc_mid st gr nd rfl (Or.inl rfl) (pv 1) (els_cons st gr (el_is (i := 33) W hk (pv 0) rfl hmi rfl) (els_cons st gr (el_is (i := 34) W hk (pv 0) rfl hmi rfl) (els_cons st gr (el_is (i := 35) W hk (pv 0) rfl hmi rfl) (els_cons st gr (el_is (i := 36) W hk (pv 0) rfl hmi rfl) els_nil))))
      (acc_mid st gr nd rfl (Or.inl rfl) (pv 1) (els_cons st gr (el_is (i := 37) W hk (pv 0) rfl hmi rfl) (els_cons st gr (el_is (i := 38) W hk (pv 0) rfl hmi rfl) (els_cons st gr (el_is (i := 39) W hk (pv 0) rfl hmi rfl) (els_cons st gr (el_is (i := 40) W hk (pv 0) rfl hmi rfl) els_nil))))
      (acc_last st gr (pv 1) (els_cons st gr (el_is (i := 41) W hk (pv 0) rfl hmi rfl) (els_cons st gr (el_is (i := 42) W hk (pv 0) rfl hmi rfl) (els_cons st gr (el_is (i := 43) W hk (pv 0) rfl hmi rfl) (els_cons st gr (el_is (i := 44) W hk (pv 0) rfl hmi rfl) els_nil)))))))))))))))))), ?_⟩
    refine ⟨⟨a, rfl, hE⟩, (by decide : 1 < 2), (by decide), fun l H' ws s1 n1 e1 a1 => ?_⟩
    have e2 := a2_ri a1
    subst e2
    exact q l H' s1 n1 e1
theorem sc_place : FnScope ["thing", "found"] ["thing"] (defScope (top 74)) := ⟨rfl, rfl, rfl, by decide +kernel, rfl, by decide +kernel, by decide +kernel⟩
theorem ok_place {f : Addr} {fd : FuncData} (W : Ev K mg) (F : FnT K "_law_by_place" 74 f fd) : FnN P w K mg base 3 f fd ["thing"] (spAll36 K) := by
  refine fn_calm F sc_place (fun A vs H Q E h => ?_) (fun A vs H Q E h => h.1) (fun cdv A outer s H vs Q E hr2 h => ?_)
  · obtain ⟨_, v, rfl, _⟩ := h
    rfl
  · obtain ⟨_, v, rfl, q⟩ := h
    have st : Stay 1 (PreV [v]) := prev_stay (Nat.le_refl 1)
    have gr : Grows (RE K) := re_grows
    have nd : (["thing", "found"] : List Str).Nodup := sc_place.nd
    have hp : ∀ σ H, PreV [v] σ H → σ[0]? = some (some v) := fun σ H p => p 0 v rfl
    refine ⟨_, (acc_first st gr nd rfl (Or.inl rfl) (els_cons st gr (el_pos1 (i := 0) (mk_0 W) hr2 (pv 0) hp rfl) (els_cons st gr (el_pos1 (i := 1) (mk_1 W) hr2 (pv 0) hp rfl) (els_cons st gr (el_pos1 (i := 2) (mk_2 W) hr2 (pv 0) hp rfl) (els_cons st gr (el_pos1 (i := 3) (mk_3 W) hr2 (pv 0) hp rfl) (els_cons st gr (el_pos1 (i := 4) (mk_4 W) hr2 (pv 0) hp rfl) els_nil)))))
      (acc_mid st gr nd rfl (Or.inl rfl) (pv 1) (els_cons st gr (el_pos1 (i := 5) (mk_5 W) hr2 (pv 0) hp rfl) (els_cons st gr (el_pos1 (i := 6) (mk_6 W) hr2 (pv 0) hp rfl) (els_cons st gr (el_pos1 (i := 7) (mk_7 W) hr2 (pv 0) hp rfl) (els_cons st gr (el_pos1 (i := 8) (mk_8 W) hr2 (pv 0) hp rfl) els_nil))))
      (acc_mid st gr nd rfl (Or.inl rfl) (pv 1) (els_cons st gr (el_pos1 (i := 9) (mk_9 W) hr2 (pv 0) hp rfl) (els_cons st gr (el_pos1 (i := 10) (mk_10 W) hr2 (pv 0) hp rfl) (els_cons st gr (el_pos1 (i := 11) (mk_11 W) hr2 (pv 0) hp rfl) (els_cons st gr (el_pos1 (i := 12) (mk_12 W) hr2 (pv 0) hp rfl) els_nil))))
      (acc_mid st gr nd rfl (Or.inl rfl) (pv 1) (els_cons st gr (el_pos1 (i := 13) (mk_13 W) hr2 (pv 0) hp rfl) (els_cons st gr (el_pos1 (i := 14) (mk_14 W) hr2 (pv 0) hp rfl) (els_cons st gr (el_pos1 (i := 15) (mk_15 W) hr2 (pv 0) hp rfl) (els_cons st gr (el_pos1 (i := 16) (mk_16 W) hr2 (pv 0) hp rfl) els_nil))))
      (acc_mid st gr nd rfl (Or.inl rfl) (pv 1) (els_cons st gr (el_pos1 (i := 17) (mk_17 W) hr2 (pv 0) hp rfl) (els_cons st gr (el_pos1 (i := 18) (mk_18 W) hr2 (pv 0) hp rfl) (els_cons st gr (el_pos1 (i := 19) (mk_19 W) hr2 (pv 0) hp rfl) (els_cons st gr (el_pos1 (i := 20) (mk_20 W) hr2 (pv 0) hp rfl) els_nil))))
      (acc_mid st gr nd rfl (Or.inl rfl) (pv 1) (els_cons st gr (el_pos1 (i := 21) (mk_21 W) hr2 (pv 0) hp rfl) (els_cons st gr (el_pos1 (i := 22) (mk_22 W) hr2 (pv 0) hp rfl) (els_cons st gr (el_pos1 (i := 23) (mk_23 W) hr2 (pv 0) hp rfl) (els_cons st gr (el_pos1 (i := 24) (mk_24 W) hr2 (pv 0) hp rfl) els_nil))))
      (acc_mid st gr nd rfl (Or.inl rfl) (pv 1) (els_cons st gr (el_pos1 (i := 25) (mk_25 W) hr2 (pv 0) hp rfl) (els_cons st gr (el_pos1 (i := 26) (mk_26 W) hr2 (pv 0) hp rfl) (els_cons st gr (el_pos1 (i := 27) (mk_27 W) hr2 (pv 0) hp rfl) (els_cons st gr (el_pos1 (i := 28) (mk_28 W) hr2 (pv 0) hp rfl) els_nil))))
      (acc_mid st gr nd rfl (Or.inl rfl) (pv 1) (els_cons st gr (el_pos1 (i := 29) (mk_29 W) hr2 (pv 0) hp rfl) (els_cons st gr (el_pos1 (i := 30) (mk_30 W) hr2 (pv 0) hp rfl) (els_cons st gr (el_pos1 (i := 31) (mk_31 W) hr2 (pv 0) hp rfl) els_nil)))
      (acc_last st gr (pv 1) (els_cons st gr (el_pos1 (i := 32) (mk_32 W) hr2 (pv 0) hp rfl) (els_cons st gr (el_pos1 (i := 33) (mk_33 W) hr2 (pv 0) hp rfl) (els_cons st gr (el_pos1 (i := 34) (mk_34 W) hr2 (pv 0) hp rfl) (els_cons st gr (el_pos1 (i := 35) (mk_35 W) hr2 (pv 0) hp rfl) els_nil))))))))))))), ?_⟩
    exact ⟨prev_start, (by decide : 1 < 2), Nat.le_of_ble_eq_true rfl, fun l H' ws s1 n1 e1 a1 => q l H' ws s1 n1 e1 a1⟩
theorem sc_name : FnScope ["thing", "found"] ["thing"] (defScope (top 75)) := ⟨rfl, rfl, rfl, by decide +kernel, rfl, by decide +kernel, by decide +kernel⟩
theorem ok_name {f : Addr} {fd : FuncData} (W : Ev K mg) (F : FnT K "_law_by_name" 75 f fd) : FnN P w K mg base 3 f fd ["thing"] (spAll36 K) := by
  refine fn_calm F sc_name (fun A vs H Q E h => ?_) (fun A vs H Q E h => h.1) (fun cdv A outer s H vs Q E hr2 h => ?_)
  · obtain ⟨_, v, rfl, _⟩ := h
    rfl
  · obtain ⟨_, v, rfl, q⟩ := h
    have st : Stay 1 (PreV [v]) := prev_stay (Nat.le_refl 1)
    have gr : Grows (RE K) := re_grows
    have nd : (["thing", "found"] : List Str).Nodup := sc_name.nd
    have hp : ∀ σ H, PreV [v] σ H → σ[0]? = some (some v) := fun σ H p => p 0 v rfl
    refine ⟨_, (acc_first st gr nd rfl (Or.inl rfl) (els_cons st gr (el_kw1 (i := 0) (mk_0 W) hr2 (pv 0) hp rfl) (els_cons st gr (el_kw1 (i := 1) (mk_1 W) hr2 (pv 0) hp rfl) (els_cons st gr (el_kw1 (i := 2) (mk_2 W) hr2 (pv 0) hp rfl) (els_cons st gr (el_kw1 (i := 3) (mk_3 W) hr2 (pv 0) hp rfl) els_nil))))
      (acc_mid st gr nd rfl (Or.inl rfl) (pv 1) (els_cons st gr (el_kw1 (i := 4) (mk_4 W) hr2 (pv 0) hp rfl) (els_cons st gr (el_kw1 (i := 5) (mk_5 W) hr2 (pv 0) hp rfl) (els_cons st gr (el_kw1 (i := 6) (mk_6 W) hr2 (pv 0) hp rfl) els_nil)))
      (acc_mid st gr nd rfl (Or.inl rfl) (pv 1) (els_cons st gr (el_kw1 (i := 7) (mk_7 W) hr2 (pv 0) hp rfl) (els_cons st gr (el_kw1 (i := 8) (mk_8 W) hr2 (pv 0) hp rfl) (els_cons st gr (el_kw1 (i := 9) (mk_9 W) hr2 (pv 0) hp rfl) els_nil)))
      (acc_mid st gr nd rfl (Or.inl rfl) (pv 1) (els_cons st gr (el_kw1 (i := 10) (mk_10 W) hr2 (pv 0) hp rfl) (els_cons st gr (el_kw1 (i := 11) (mk_11 W) hr2 (pv 0) hp rfl) (els_cons st gr (el_kw1 (i := 12) (mk_12 W) hr2 (pv 0) hp rfl) els_nil)))
      (acc_mid st gr nd rfl (Or.inl rfl) (pv 1) (els_cons st gr (el_kw1 (i := 13) (mk_13 W) hr2 (pv 0) hp rfl) (els_cons st gr (el_kw1 (i := 14) (mk_14 W) hr2 (pv 0) hp rfl) (els_cons st gr (el_kw1 (i := 15) (mk_15 W) hr2 (pv 0) hp rfl) els_nil)))
      (acc_mid st gr nd rfl (Or.inl rfl) (pv 1) (els_cons st gr (el_kw1 (i := 16) (mk_16 W) hr2 (pv 0) hp rfl) (els_cons st gr (el_kw1 (i := 17) (mk_17 W) hr2 (pv 0) hp rfl) (els_cons st gr (el_kw1 (i := 18) (mk_18 W) hr2 (pv 0) hp rfl) els_nil)))
      (acc_mid st gr nd rfl (Or.inl rfl) (pv 1) (els_cons st gr (el_kw1 (i := 19) (mk_19 W) hr2 (pv 0) hp rfl) (els_cons st gr (el_kw1 (i := 20) (mk_20 W) hr2 (pv 0) hp rfl) (els_cons st gr (el_kw1 (i := 21) (mk_21 W) hr2 (pv 0) hp rfl) els_nil)))
      (acc_mid st gr nd rfl (Or.inl rfl) (pv 1) (els_cons st gr (el_kw1 (i := 22) (mk_22 W) hr2 (pv 0) hp rfl) (els_cons st gr (el_kw1 (i := 23) (mk_23 W) hr2 (pv 0) hp rfl) (els_cons st gr (el_kw1 (i := 24) (mk_24 W) hr2 (pv 0) hp rfl) els_nil)))
      (acc_mid st gr nd rfl (Or.inl rfl) (pv 1) (els_cons st gr (el_kw1 (i := 25) (mk_25 W) hr2 (pv 0) hp rfl) (els_cons st gr (el_kw1 (i := 26) (mk_26 W) hr2 (pv 0) hp rfl) (els_cons st gr (el_kw1 (i := 27) (mk_27 W) hr2 (pv 0) hp rfl) els_nil)))
      (acc_mid st gr nd rfl (Or.inl rfl) (pv 1) (els_cons st gr (el_kw1 (i := 28) (mk_28 W) hr2 (pv 0) hp rfl) (els_cons st gr (el_kw1 (i := 29) (mk_29 W) hr2 (pv 0) hp rfl) (els_cons st gr (el_kw1 (i := 30) (mk_30 W) hr2 (pv 0) hp rfl) els_nil)))
      (acc_mid st gr nd rfl (Or.inl rfl) (pv 1) (els_cons st gr (el_kw1 (i := 31) (mk_31 W) hr2 (pv 0) hp rfl) els_nil)
      (acc_last st gr (pv 1) (els_cons st gr (el_kw1 (i := 32) (mk_32 W) hr2 (pv 0) hp rfl) (els_cons st gr (el_kw1 (i := 33) (mk_33 W) hr2 (pv 0) hp rfl) (els_cons st gr (el_kw1 (i := 34) (mk_34 W) hr2 (pv 0) hp rfl) (els_cons st gr (el_kw1 (i := 35) (mk_35 W) hr2 (pv 0) hp rfl) els_nil)))))))))))))))), ?_⟩
    exact ⟨prev_start, (by decide : 1 < 2), Nat.le_of_ble_eq_true rfl, fun l H' ws s1 n1 e1 a1 => q l H' ws s1 n1 e1 a1⟩
end
end EPL
-- part KB6
set_option maxHeartbeats 4000000
/-! B6: _law_several. Printed by gen_kb6.py. -/
namespace EPL
open PySem PySem.Spec PyProof.Rows L2 L2H
section
variable {P : Program} {w : World} {K : PySem.W.Frag} {mg : Str → Option Value} {base : Heap}
/-- the six errors of several values -/
def items6 (v0 v1 v2 v3 v4 : V) : List (Nat × List V) := [(36, [v0, v1]), (37, [v0, v1]), (38, [v0, v1, v2]), (39, [v0, v1, v2]), (40, [v0, v1, v2, v3]), (41, [v0, v1, v2, v3, v4])]
def spSev (K : PySem.W.Frag) (A : Around) : Sp := fun vs H Q _ => A.handled = none ∧ ∃ (v0 v1 v2 v3 v4 : V) (n : Nat), n < 4 ∧ vs = [v0, v1, v2, v3, v4, .int n] ∧ ∀ l H' ws, Same H H' → H l = none → H' l = some (.lst ws) → A2 (RE K H') (items6 v0 v1 v2 v3 v4) ws → Q (.ref l) H'
theorem test_eq {σ : St} {H : Hp} {j : Nat} {a b : Int} {Q : Bool → Hp → Prop} (h : σ[j]? = some (some (.int a))) (q : Q (decide (a = b)) H) : tTest (tOp rEq (tVar j) (tC (.int b))) σ H Q :=
  ⟨.int a, h, rfl, _, rfl, by
    by_cases e : a = b
    · subst e
      rw [decide_eq_true rfl] at q ⊢
      exact q
    · rw [decide_eq_false e] at q
      rw [decide_eq_false fun z => e (V.int.inj z)]
      exact q⟩
theorem sc_sev : FnScope ["one", "two", "three", "four", "five", "way", "found"] ["one", "two", "three", "four", "five", "way"] (defScope (top 76)) := ⟨rfl, rfl, rfl, by decide +kernel, rfl, by decide +kernel, by decide +kernel⟩
theorem ok_sev {f : Addr} {fd : FuncData} (W : Ev K mg) (F : FnT K "_law_several" 76 f fd) : FnN P w K mg base 3 f fd ["one", "two", "three", "four", "five", "way"] (spSev K) := by
  refine fn_calm F sc_sev (fun A vs H Q E h => ?_) (fun A vs H Q E h => h.1) (fun cdv A outer s H vs Q E hr2 h => ?_)
  · obtain ⟨_, v0, v1, v2, v3, v4, n, _, rfl, _⟩ := h
    rfl
  · obtain ⟨_, v0, v1, v2, v3, v4, n, hn, rfl, q⟩ := h
    obtain ⟨fd36, m36, b36_0, b36_1, b36_2, b36_3⟩ := mk_36 (P := P) (w := w) (base := base) W
    obtain ⟨fd37, m37, b37_0, b37_1, b37_2, b37_3⟩ := mk_37 (P := P) (w := w) (base := base) W
    obtain ⟨fd38, m38, b38_0, b38_1, b38_2, b38_3⟩ := mk_38 (P := P) (w := w) (base := base) W
    obtain ⟨fd39, m39, b39_0, b39_1, b39_2, b39_3⟩ := mk_39 (P := P) (w := w) (base := base) W
    obtain ⟨fd40, m40, b40_0, b40_1, b40_2, b40_3, b40_4⟩ := mk_40 (P := P) (w := w) (base := base) W
    obtain ⟨fd41, m41, b41_0, b41_1, b41_2, b41_3, b41_4⟩ := mk_41 (P := P) (w := w) (base := base) W
    let Pv : St → Hp → Prop := PreV [v0, v1, v2, v3, v4, .int n]
    have st : Stay 6 Pv := prev_stay (Nat.le_refl 6)
    have gr : Grows (RE K) := re_grows
    have nd : (["one", "two", "three", "four", "five", "way", "found"] : List Str).Nodup := sc_sev.nd
    refine ⟨_, (pss_cons (ps_if (pt_cmpR op_eq (pv 5) pe_int (nomark _)) (acc_first st gr nd rfl (Or.inl rfl) (els_cons st gr (pe_imp (t' := tEl Pv (RE K) (36, [v0, v1])) (pe_err m36 hr2 b36_1 rfl (pa_cons (pv 0) (pa_cons (pv 1) pa_nil)) pk_nil) fun σ H Q h => ⟨v0, h.1 0 _ rfl, v1, h.1 1 _ rfl, rfl, rfl, rfl, by decide, fun a H' s n e => h.2 _ _ s ⟨a, rfl, e⟩⟩)
        (els_cons st gr (pe_imp (t' := tEl Pv (RE K) (37, [v0, v1])) (pe_err m37 hr2 b37_1 rfl (pa_cons (pv 0) (pa_cons (pv 1) pa_nil)) pk_nil) fun σ H Q h => ⟨v0, h.1 0 _ rfl, v1, h.1 1 _ rfl, rfl, rfl, rfl, by decide, fun a H' s n e => h.2 _ _ s ⟨a, rfl, e⟩⟩)
        (els_cons st gr (pe_imp (t' := tEl Pv (RE K) (38, [v0, v1, v2])) (pe_err m38 hr2 b38_1 rfl (pa_cons (pv 0) (pa_cons (pv 1) (pa_cons (pv 2) pa_nil))) pk_nil) fun σ H Q h => ⟨v0, h.1 0 _ rfl, v1, h.1 1 _ rfl, v2, h.1 2 _ rfl, rfl, rfl, rfl, by decide, fun a H' s n e => h.2 _ _ s ⟨a, rfl, e⟩⟩)
        (els_cons st gr (pe_imp (t' := tEl Pv (RE K) (39, [v0, v1, v2])) (pe_err m39 hr2 b39_0 rfl (pa_cons (pv 0) (pa_cons (pv 1) (pa_cons (pv 2) pa_nil))) pk_nil) fun σ H Q h => ⟨v0, h.1 0 _ rfl, v1, h.1 1 _ rfl, v2, h.1 2 _ rfl, rfl, rfl, rfl, by decide, fun a H' s n e => h.2 _ _ s ⟨a, rfl, e⟩⟩)
        els_nil))))
      (acc_last st gr (pv 6) (els_cons st gr (pe_imp (t' := tEl Pv (RE K) (40, [v0, v1, v2, v3])) (pe_err m40 hr2 b40_1 rfl (pa_cons (pv 0) (pa_cons (pv 1) (pa_cons (pv 2) (pa_cons (pv 3) pa_nil)))) pk_nil) fun σ H Q h => ⟨v0, h.1 0 _ rfl, v1, h.1 1 _ rfl, v2, h.1 2 _ rfl, v3, h.1 3 _ rfl, rfl, rfl, rfl, by decide, fun a H' s n e => h.2 _ _ s ⟨a, rfl, e⟩⟩)
        (els_cons st gr (pe_imp (t' := tEl Pv (RE K) (41, [v0, v1, v2, v3, v4])) (pe_err m41 hr2 b41_1 rfl (pa_cons (pv 0) (pa_cons (pv 1) (pa_cons (pv 2) (pa_cons (pv 3) (pa_cons (pv 4) pa_nil))))) pk_nil) fun σ H Q h => ⟨v0, h.1 0 _ rfl, v1, h.1 1 _ rfl, v2, h.1 2 _ rfl, v3, h.1 3 _ rfl, v4, h.1 4 _ rfl, rfl, rfl, rfl, by decide, fun a H' s n e => h.2 _ _ s ⟨a, rfl, e⟩⟩)
        els_nil)))) pss_nil)
      (pss_cons (ps_if (pt_cmpR op_eq (pv 5) pe_int (nomark _)) (acc_first st gr nd rfl (Or.inl rfl) (els_cons st gr (pe_imp (t' := tEl Pv (RE K) (36, [v0, v1])) (pe_errK m36 hr2 b36_2 rfl (pk_cons (pv 0) (pk_cons (pv 1) pk_nil))) fun σ H Q h => ⟨v0, h.1 0 _ rfl, v1, h.1 1 _ rfl, rfl, rfl, rfl, by decide, fun a H' s n e => h.2 _ _ s ⟨a, rfl, e⟩⟩)
        (els_cons st gr (pe_imp (t' := tEl Pv (RE K) (37, [v0, v1])) (pe_errK m37 hr2 b37_2 rfl (pk_cons (pv 0) (pk_cons (pv 1) pk_nil))) fun σ H Q h => ⟨v0, h.1 0 _ rfl, v1, h.1 1 _ rfl, rfl, rfl, rfl, by decide, fun a H' s n e => h.2 _ _ s ⟨a, rfl, e⟩⟩)
        els_nil))
      (acc_mid st gr nd rfl (Or.inl rfl) (pv 6) (els_cons st gr (pe_imp (t' := tEl Pv (RE K) (38, [v0, v1, v2])) (pe_errK m38 hr2 b38_2 rfl (pk_cons (pv 0) (pk_cons (pv 1) (pk_cons (pv 2) pk_nil)))) fun σ H Q h => ⟨v0, h.1 0 _ rfl, v1, h.1 1 _ rfl, v2, h.1 2 _ rfl, rfl, rfl, rfl, by decide, fun a H' s n e => h.2 _ _ s ⟨a, rfl, e⟩⟩)
        (els_cons st gr (pe_imp (t' := tEl Pv (RE K) (39, [v0, v1, v2])) (pe_errK m39 hr2 b39_2 rfl (pk_cons (pv 0) (pk_cons (pv 1) (pk_cons (pv 2) pk_nil)))) fun σ H Q h => ⟨v0, h.1 0 _ rfl, v1, h.1 1 _ rfl, v2, h.1 2 _ rfl, rfl, rfl, rfl, by decide, fun a H' s n e => h.2 _ _ s ⟨a, rfl, e⟩⟩)
        els_nil))
      (acc_mid st gr nd rfl (Or.inl rfl) (pv 6) (els_cons st gr (pe_imp (t' := tEl Pv (RE K) (40, [v0, v1, v2, v3])) (pe_errK m40 hr2 b40_2 rfl (pk_cons (pv 0) (pk_cons (pv 1) (pk_cons (pv 2) (pk_cons (pv 3) pk_nil))))) fun σ H Q h => ⟨v0, h.1 0 _ rfl, v1, h.1 1 _ rfl, v2, h.1 2 _ rfl, v3, h.1 3 _ rfl, rfl, rfl, rfl, by decide, fun a H' s n e => h.2 _ _ s ⟨a, rfl, e⟩⟩)
        els_nil)
      (acc_last st gr (pv 6) (els_cons st gr (pe_imp (t' := tEl Pv (RE K) (41, [v0, v1, v2, v3, v4])) (pe_errK m41 hr2 b41_2 rfl (pk_cons (pv 0) (pk_cons (pv 1) (pk_cons (pv 2) (pk_cons (pv 3) (pk_cons (pv 4) pk_nil)))))) fun σ H Q h => ⟨v0, h.1 0 _ rfl, v1, h.1 1 _ rfl, v2, h.1 2 _ rfl, v3, h.1 3 _ rfl, v4, h.1 4 _ rfl, rfl, rfl, rfl, by decide, fun a H' s n e => h.2 _ _ s ⟨a, rfl, e⟩⟩)
        els_nil))))) pss_nil)
      (pss_cons (ps_if (pt_cmpR op_eq (pv 5) pe_int (nomark _)) (acc_first st gr nd rfl (Or.inl rfl) (els_cons st gr (pe_imp (t' := tEl Pv (RE K) (36, [v0, v1])) (pe_errK m36 hr2 b36_3 rfl (pk_cons (pv 1) (pk_cons (pv 0) pk_nil))) fun σ H Q h => ⟨v1, h.1 1 _ rfl, v0, h.1 0 _ rfl, rfl, rfl, rfl, by decide, fun a H' s n e => h.2 _ _ s ⟨a, rfl, e⟩⟩)
        (els_cons st gr (pe_imp (t' := tEl Pv (RE K) (37, [v0, v1])) (pe_errK m37 hr2 b37_3 rfl (pk_cons (pv 1) (pk_cons (pv 0) pk_nil))) fun σ H Q h => ⟨v1, h.1 1 _ rfl, v0, h.1 0 _ rfl, rfl, rfl, rfl, by decide, fun a H' s n e => h.2 _ _ s ⟨a, rfl, e⟩⟩)
        els_nil))
      (acc_mid st gr nd rfl (Or.inl rfl) (pv 6) (els_cons st gr (pe_imp (t' := tEl Pv (RE K) (38, [v0, v1, v2])) (pe_errK m38 hr2 b38_3 rfl (pk_cons (pv 2) (pk_cons (pv 1) (pk_cons (pv 0) pk_nil)))) fun σ H Q h => ⟨v2, h.1 2 _ rfl, v1, h.1 1 _ rfl, v0, h.1 0 _ rfl, rfl, rfl, rfl, by decide, fun a H' s n e => h.2 _ _ s ⟨a, rfl, e⟩⟩)
        (els_cons st gr (pe_imp (t' := tEl Pv (RE K) (39, [v0, v1, v2])) (pe_errK m39 hr2 b39_3 rfl (pk_cons (pv 2) (pk_cons (pv 1) (pk_cons (pv 0) pk_nil)))) fun σ H Q h => ⟨v2, h.1 2 _ rfl, v1, h.1 1 _ rfl, v0, h.1 0 _ rfl, rfl, rfl, rfl, by decide, fun a H' s n e => h.2 _ _ s ⟨a, rfl, e⟩⟩)
        els_nil))
      (acc_mid st gr nd rfl (Or.inl rfl) (pv 6) (els_cons st gr (pe_imp (t' := tEl Pv (RE K) (40, [v0, v1, v2, v3])) (pe_errK m40 hr2 b40_3 rfl (pk_cons (pv 3) (pk_cons (pv 2) (pk_cons (pv 1) (pk_cons (pv 0) pk_nil))))) fun σ H Q h => ⟨v3, h.1 3 _ rfl, v2, h.1 2 _ rfl, v1, h.1 1 _ rfl, v0, h.1 0 _ rfl, rfl, rfl, rfl, by decide, fun a H' s n e => h.2 _ _ s ⟨a, rfl, e⟩⟩)
        els_nil)
      (acc_last st gr (pv 6) (els_cons st gr (pe_imp (t' := tEl Pv (RE K) (41, [v0, v1, v2, v3, v4])) (pe_errK m41 hr2 b41_3 rfl (pk_cons (pv 4) (pk_cons (pv 3) (pk_cons (pv 2) (pk_cons (pv 1) (pk_cons (pv 0) pk_nil)))))) fun σ H Q h => ⟨v4, h.1 4 _ rfl, v3, h.1 3 _ rfl, v2, h.1 2 _ rfl, v1, h.1 1 _ rfl, v0, h.1 0 _ rfl, rfl, rfl, rfl, by decide, fun a H' s n e => h.2 _ _ s ⟨a, rfl, e⟩⟩)
        els_nil))))) pss_nil)
      (acc_first st gr nd rfl (Or.inl rfl) (els_cons st gr (pe_imp (t' := tEl Pv (RE K) (36, [v0, v1])) (pe_err m36 hr2 b36_0 rfl (pa_cons (pv 0) pa_nil) (pk_cons (pv 1) pk_nil)) fun σ H Q h => ⟨v0, h.1 0 _ rfl, v1, h.1 1 _ rfl, rfl, rfl, rfl, by decide, fun a H' s n e => h.2 _ _ s ⟨a, rfl, e⟩⟩)
        (els_cons st gr (pe_imp (t' := tEl Pv (RE K) (37, [v0, v1])) (pe_err m37 hr2 b37_0 rfl (pa_cons (pv 0) pa_nil) (pk_cons (pv 1) pk_nil)) fun σ H Q h => ⟨v0, h.1 0 _ rfl, v1, h.1 1 _ rfl, rfl, rfl, rfl, by decide, fun a H' s n e => h.2 _ _ s ⟨a, rfl, e⟩⟩)
        (els_cons st gr (pe_imp (t' := tEl Pv (RE K) (38, [v0, v1, v2])) (pe_err m38 hr2 b38_0 rfl (pa_cons (pv 0) (pa_cons (pv 1) pa_nil)) (pk_cons (pv 2) pk_nil)) fun σ H Q h => ⟨v0, h.1 0 _ rfl, v1, h.1 1 _ rfl, v2, h.1 2 _ rfl, rfl, rfl, rfl, by decide, fun a H' s n e => h.2 _ _ s ⟨a, rfl, e⟩⟩)
        els_nil)))
      (acc_mid st gr nd rfl (Or.inl rfl) (pv 6) (els_cons st gr (pe_imp (t' := tEl Pv (RE K) (39, [v0, v1, v2])) (pe_err m39 hr2 b39_1 rfl (pa_cons (pv 0) pa_nil) (pk_cons (pv 2) (pk_cons (pv 1) pk_nil))) fun σ H Q h => ⟨v0, h.1 0 _ rfl, v2, h.1 2 _ rfl, v1, h.1 1 _ rfl, rfl, rfl, rfl, by decide, fun a H' s n e => h.2 _ _ s ⟨a, rfl, e⟩⟩)
        (els_cons st gr (pe_imp (t' := tEl Pv (RE K) (40, [v0, v1, v2, v3])) (pe_err m40 hr2 b40_0 rfl (pa_cons (pv 0) (pa_cons (pv 1) pa_nil)) (pk_cons (pv 3) (pk_cons (pv 2) pk_nil))) fun σ H Q h => ⟨v0, h.1 0 _ rfl, v1, h.1 1 _ rfl, v3, h.1 3 _ rfl, v2, h.1 2 _ rfl, rfl, rfl, rfl, by decide, fun a H' s n e => h.2 _ _ s ⟨a, rfl, e⟩⟩)
        els_nil))
      (acc_last st gr (pv 6) (els_cons st gr (pe_imp (t' := tEl Pv (RE K) (41, [v0, v1, v2, v3, v4])) (pe_err m41 hr2 b41_0 rfl (pa_cons (pv 0) (pa_cons (pv 1) pa_nil)) (pk_cons (pv 4) (pk_cons (pv 2) (pk_cons (pv 3) pk_nil)))) fun σ H Q h => ⟨v0, h.1 0 _ rfl, v1, h.1 1 _ rfl, v4, h.1 4 _ rfl, v2, h.1 2 _ rfl, v3, h.1 3 _ rfl, rfl, rfl, rfl, by decide, fun a H' s n e => h.2 _ _ s ⟨a, rfl, e⟩⟩)
        els_nil))))))), ?_⟩
    have fin : ∀ (l : Addr) (H' : Hp) (ws : List V), Same H H' → H l = none → H' l = some (.lst ws) → A2 (RE K H') (items6 v0 v1 v2 v3 v4) ws → Q (.ref l) H' := q
    have go : tAll Pv (RE K) 6 (items6 v0 v1 v2 v3 v4) { nx := fun _ H' => Q .non H', rt := Q } (L2.start ["one", "two", "three", "four", "five", "way", "found"] [v0, v1, v2, v3, v4, .int n]) H := ⟨prev_start, (by decide : 6 < 7), Nat.le_of_ble_eq_true rfl, q⟩
    obtain rfl | rfl | rfl | rfl : n = 0 ∨ n = 1 ∨ n = 2 ∨ n = 3 := by omega
    · exact test_eq rfl go
    · exact test_eq rfl (test_eq rfl go)
    · exact test_eq rfl (test_eq rfl (test_eq rfl go))
    · exact test_eq rfl (test_eq rfl (test_eq rfl go))
end
end EPL
-- part KB7
set_option maxHeartbeats 4000000
/-! B7: _law_kept. Printed by gen_kb7.py. -/
namespace EPL
open PySem PySem.Spec PyProof.Rows L2 L2H
theorem ifd {a b : Nat} {A B : Prop} (h1 : a = b → A) (h2 : a ≠ b → B) : if decide (a = b) = true then A else B := by
  by_cases e : a = b
  · rw [decide_eq_true e]
    exact h1 e
  · rw [decide_eq_false e]
    exact h2 e
theorem fsE_given : ∀ k, k < 32 → fsE k = (["given"] : List Str) := by decide +kernel
section
variable {P : Program} {w : World} {K : PySem.W.Frag} {mg : Str → Option Value} {base : Heap}
/-- the attributes of an error, in order -/
def spKept (K : PySem.W.Frag) (_ : Around) : Sp := fun vs H Q _ => ∃ (k : Nat) (a : Addr) (xs : List V), k < 42 ∧ vs = [.ref a] ∧ xs.length = (fsE k).length ∧ ErrF H a (ad K k) ((fsE k).zip xs).reverse ∧ ∀ l, H l = none → Q (.ref l) (upd H l (.lst xs))
theorem sc_kept : FnScope ["e"] ["e"] (defScope (top 78)) := ⟨rfl, rfl, rfl, by decide +kernel, rfl, by decide +kernel, by decide +kernel⟩
theorem ok_kept {f : Addr} {fd : FuncData} (W : Ev K mg) (F : FnT K "_law_kept" 78 f fd) (hmi : mg "isinstance" = none) : FnN P w K mg base 1 f fd ["e"] (spKept K) := by
  refine fn_any F sc_kept (fun A vs H Q E h => ?_) (fun cdv A outer s H vs Q E p hr h => ?_)
  · obtain ⟨k, a, xs, _, rfl, _⟩ := h
    rfl
  · obtain ⟨k, a, xs, hk, rfl, hl, hE, q⟩ := h
    have hk45 : k < 45 := by omega
    generalize hfs : ((fsE k).zip xs).reverse = fs at hE
    have pre : PreE K 0 k fs (L2.start ["e"] [.ref a]) H := ⟨a, rfl, hE⟩
    refine ⟨_, (pss_cons (ps_if (PW.pt (pw_or (pt_isC (i := 32) (fs := fs) W hk45 (pv 0) rfl hmi rfl) (pw_or1 (pt_isC (i := 33) (fs := fs) W hk45 (pv 0) rfl hmi rfl)))) (pss_one (ps_ret (pe_lst (pa_cons (pe_at (fs := fs) W hk45 (pv 0) (by decide +kernel) ft_payoff) pa_nil)))) pss_nil)
      (pss_cons (ps_if (pt_isC (i := 34) (fs := fs) W hk45 (pv 0) rfl hmi rfl) (pss_one (ps_ret (pe_lst (pa_cons (pe_at (fs := fs) W hk45 (pv 0) (by decide +kernel) ft_count) pa_nil)))) pss_nil)
      (pss_cons (ps_if (pt_isC (i := 35) (fs := fs) W hk45 (pv 0) rfl hmi rfl) (pss_one (ps_ret (pe_lst (pa_cons (pe_at (fs := fs) W hk45 (pv 0) (by decide +kernel) ft_name) pa_nil)))) pss_nil)
      (pss_cons (ps_if (pt_isC (i := 36) (fs := fs) W hk45 (pv 0) rfl hmi rfl) (pss_one (ps_ret (pe_lst (pa_cons (pe_at (fs := fs) W hk45 (pv 0) (by decide +kernel) ft_line) (pa_cons (pe_at (fs := fs) W hk45 (pv 0) (by decide +kernel) ft_column) pa_nil))))) pss_nil)
      (pss_cons (ps_if (pt_isC (i := 37) (fs := fs) W hk45 (pv 0) rfl hmi rfl) (pss_one (ps_ret (pe_lst (pa_cons (pe_at (fs := fs) W hk45 (pv 0) (by decide +kernel) ft_unit) (pa_cons (pe_at (fs := fs) W hk45 (pv 0) (by decide +kernel) ft_store) pa_nil))))) pss_nil)
      (pss_cons (ps_if (pt_isC (i := 38) (fs := fs) W hk45 (pv 0) rfl hmi rfl) (pss_one (ps_ret (pe_lst (pa_cons (pe_at (fs := fs) W hk45 (pv 0) (by decide +kernel) ft_reason) (pa_cons (pe_at (fs := fs) W hk45 (pv 0) (by decide +kernel) ft_unit) (pa_cons (pe_at (fs := fs) W hk45 (pv 0) (by decide +kernel) ft_word) pa_nil)))))) pss_nil)
      (pss_cons (ps_if (pt_isC (i := 39) (fs := fs) W hk45 (pv 0) rfl hmi rfl) (pss_one (ps_ret (pe_lst (pa_cons (pe_at (fs := fs) W hk45 (pv 0) (by decide +kernel) ft_side) (pa_cons (pe_at (fs := fs) W hk45 (pv 0) (by decide +kernel) ft_store) (pa_cons (pe_at (fs := fs) W hk45 (pv 0) (by decide +kernel) ft_harm) pa_nil)))))) pss_nil)
      (pss_cons (ps_if (pt_isC (i := 40) (fs := fs) W hk45 (pv 0) rfl hmi rfl) (pss_one (ps_ret (pe_lst (pa_cons (pe_at (fs := fs) W hk45 (pv 0) (by decide +kernel) ft_unit) (pa_cons (pe_at (fs := fs) W hk45 (pv 0) (by decide +kernel) ft_store) (pa_cons (pe_at (fs := fs) W hk45 (pv 0) (by decide +kernel) ft_side) (pa_cons (pe_at (fs := fs) W hk45 (pv 0) (by decide +kernel) ft_count) pa_nil))))))) pss_nil)
      (pss_one (ps_ret (pe_ifExp (pt_isC (i := 41) (fs := fs) W hk45 (pv 0) rfl hmi rfl) (pe_lst (pa_cons (pe_at (fs := fs) W hk45 (pv 0) (by decide +kernel) ft_side) (pa_cons (pe_at (fs := fs) W hk45 (pv 0) (by decide +kernel) ft_store) (pa_cons (pe_at (fs := fs) W hk45 (pv 0) (by decide +kernel) ft_plan) (pa_cons (pe_at (fs := fs) W hk45 (pv 0) (by decide +kernel) ft_payoff) (pa_cons (pe_at (fs := fs) W hk45 (pv 0) (by decide +kernel) ft_answer) pa_nil)))))) (pe_lst (pa_cons (pe_at (fs := fs) W hk45 (pv 0) (by decide +kernel) ft_given) pa_nil))))))))))))), ?_⟩
    refine ⟨pre, ifd (fun e => iteT ?_) (fun n32 => ⟨pre, ifd (fun e => ?_) (fun n33 => ?_)⟩)⟩
    · subst e
      match xs, hl with
      | [x0], _ =>
        subst hfs
        exact ⟨pre, x0, rfl, (show 1 ≤ sizeLine from small (by decide)), fun p hp => q p hp⟩
    · subst e
      match xs, hl with
      | [x0], _ =>
        subst hfs
        exact ⟨pre, x0, rfl, (show 1 ≤ sizeLine from small (by decide)), fun p hp => q p hp⟩
    refine ⟨pre, ifd (fun e => ?_) (fun n34 => ?_)⟩
    · subst e
      match xs, hl with
      | [x0], _ =>
        subst hfs
        exact ⟨pre, x0, rfl, (show 1 ≤ sizeLine from small (by decide)), fun p hp => q p hp⟩
    refine ⟨pre, ifd (fun e => ?_) (fun n35 => ?_)⟩
    · subst e
      match xs, hl with
      | [x0], _ =>
        subst hfs
        exact ⟨pre, x0, rfl, (show 1 ≤ sizeLine from small (by decide)), fun p hp => q p hp⟩
    refine ⟨pre, ifd (fun e => ?_) (fun n36 => ?_)⟩
    · subst e
      match xs, hl with
      | [x0, x1], _ =>
        subst hfs
        exact ⟨pre, x0, rfl, ⟨pre, x1, rfl, (show 2 ≤ sizeLine from small (by decide)), fun p hp => q p hp⟩⟩
    refine ⟨pre, ifd (fun e => ?_) (fun n37 => ?_)⟩
    · subst e
      match xs, hl with
      | [x0, x1], _ =>
        subst hfs
        exact ⟨pre, x0, rfl, ⟨pre, x1, rfl, (show 2 ≤ sizeLine from small (by decide)), fun p hp => q p hp⟩⟩
    refine ⟨pre, ifd (fun e => ?_) (fun n38 => ?_)⟩
    · subst e
      match xs, hl with
      | [x0, x1, x2], _ =>
        subst hfs
        exact ⟨pre, x0, rfl, ⟨pre, x1, rfl, ⟨pre, x2, rfl, (show 3 ≤ sizeLine from small (by decide)), fun p hp => q p hp⟩⟩⟩
    refine ⟨pre, ifd (fun e => ?_) (fun n39 => ?_)⟩
    · subst e
      match xs, hl with
      | [x0, x1, x2], _ =>
        subst hfs
        exact ⟨pre, x0, rfl, ⟨pre, x1, rfl, ⟨pre, x2, rfl, (show 3 ≤ sizeLine from small (by decide)), fun p hp => q p hp⟩⟩⟩
    refine ⟨pre, ifd (fun e => ?_) (fun n40 => ?_)⟩
    · subst e
      match xs, hl with
      | [x0, x1, x2, x3], _ =>
        subst hfs
        exact ⟨pre, x0, rfl, ⟨pre, x1, rfl, ⟨pre, x2, rfl, ⟨pre, x3, rfl, (show 4 ≤ sizeLine from small (by decide)), fun p hp => q p hp⟩⟩⟩⟩
    refine ⟨pre, ifd (fun e => ?_) (fun n41 => ?_)⟩
    · subst e
      match xs, hl with
      | [x0, x1, x2, x3, x4], _ =>
        subst hfs
        exact ⟨pre, x0, rfl, ⟨pre, x1, rfl, ⟨pre, x2, rfl, ⟨pre, x3, rfl, ⟨pre, x4, rfl, (show 5 ≤ sizeLine from small (by decide)), fun p hp => q p hp⟩⟩⟩⟩⟩
    have hs : k < 32 := by omega
    have hg := fsE_given k hs
    rw [hg] at hl hfs
    match xs, hl with
    | [x0], _ =>
      subst hfs
      exact ⟨pre, x0, rfl, (show 1 ≤ sizeLine from small (by decide)), fun p hp => q p hp⟩
end
end EPL
-- part KB8
set_option maxHeartbeats 4000000
/-! B8: _law_is. -/
namespace EPL
open PySem PySem.Spec PyProof.Rows L2 L2H
section
variable {X : Cx} {k j : Nat} {x : Str} {p q pos p1 p2 : Pos} {fs : List (Str × V)}
/-- isinstance(e, B), B a class above all errors -/
def tYesE (Pre : St → Hp → Prop) : TT := fun σ H Q => Pre σ H ∧ Q true H
theorem pt_up {nm : Str} {c : V} {cv : Value} (W : Ev X.K X.mg) (hk : k < 45) (hx : PE X (.Name x q) (tVar j)) (hgi : Gl X "isinstance") (hmi : X.mg "isinstance" = none) (hc : PE X (.Name nm p1) (tC c)) (hcv : ∀ u, RelV c u → u = cv) (hkit : PySem.W.kitOne X.K (.ref (ad X.K k)) cv = some true)
    (he : starEach [.Name x q, .Name nm p1] X.env = (false, eval (.Name x q) X.env) :: starEach [.Name nm p1] X.env := by rfl) (he2 : starEach [.Name nm p1] X.env = (false, eval (.Name nm p1) X.env) :: starEach [] X.env := by rfl)
    (hv : ∀ whole, isTrue (.Call (.Name "isinstance" p2) [.Name x q, .Name nm p1] [] pos) X.env whole = (do let v ← whole; standAt (Expr.Call (.Name "isinstance" p2) [.Name x q, .Name nm p1] [] pos).pos; holding [v] (truthy v)) := by intro _; rfl) :
    PT X (.Call (.Name "isinstance" p2) [.Name x q, .Name nm p1] [] pos) (tYesE (PreE X.K j k fs)) := by
  have h := pt_val (pe_callB (pos := pos) (p := p2) call_isV hgi hmi (by decide +kernel) (pa_cons hx (pa_cons hc pa_nil he2) he)) hv
  refine ⟨fun pins s σ H Q I q => h.run pins s σ H Q I ?_⟩
  obtain ⟨⟨a, e1, e2⟩, q⟩ := q
  exact ⟨.ref a, e1, a, _, fs, c, cv, true, rfl, e2, W.c hk, hcv, hkit, _, rfl, q⟩
end
section
variable {P : Program} {w : World} {K : PySem.W.Frag} {mg : Str → Option Value} {base : Heap}
/-- asked for its own spot -/
def spIs (K : PySem.W.Frag) (A : Around) : Sp := fun vs H Q _ => ∃ (k : Nat) (a : Addr) (fs : List (Str × V)), k < 45 ∧ vs = [.ref a, .int (k : Nat)] ∧ ErrF H a (ad K k) fs ∧ Quiet A H ∧ ∀ H', Same H H' → Q (.bl true) H'
theorem sc_is : FnScope ["e", "spot", "sorts", "k"] ["e", "spot"] (defScope (top 79)) := ⟨rfl, rfl, rfl, by decide +kernel, rfl, by decide +kernel, by decide +kernel⟩
theorem blk_is : BlkOk ["e", "spot", "sorts", "k"] (defScope (top 79)) { kind := .function, names := [(".0", .local), ("k", .local), ("sorts", .free)], isGenerator := false, isCoroutine := false } [("k", 3)] :=
  ⟨rfl, by decide +kernel, by decide +kernel, by decide +kernel, by decide +kernel⟩
theorem sorts_at {k i : Nat} (hi : i < 45) : (sortsOf k)[i]? = some (.bl (decide (k = i))) := by
  unfold sortsOf
  rw [List.getElem?_map, List.getElem?_range hi]
  rfl
theorem sorts_len {k : Nat} : (sortsOf k).length = 45 := by
  unfold sortsOf
  rw [List.length_map, List.length_range]
theorem same_set {H H' : Hp} {D : Addr} {o : HO} (s : Same H H') (n : H D = none) : Same H (upd H' D o) := fun b u z => by
  rw [upd_ne (ne_of_none z n)]
  exact s _ _ z
theorem ok_is {f fS : Addr} {fd fdS : FuncData} (W : Ev K mg) (F : FnT K "_law_is" 79 f fd) (FS : FnT K "_law_sorts" 77 fS fdS) (gS : mg "_law_sorts" = some (.ref fS)) (hmi : mg "isinstance" = none) (hmv : mg "ValueError" = none) (hml : mg "len" = none) (hmr : mg "range" = none) :
    FnN P w K mg base 2 f fd ["e", "spot"] (spIs K) := by
  refine fn_any F sc_is (fun A vs H Q E h => ?_) (fun cdv A outer s H vs Q E p hr h => ?_)
  · obtain ⟨k, a, fs, _, rfl, _⟩ := h
    rfl
  · obtain ⟨k, a, fs, hk, rfl, hE, hq, q⟩ := h
    have GS : FnN P w K mg base 1 fS fdS ["e"] (spSorts K) := ok_sorts W FS hmi
    have bS : Binds K fdS ["e"] [] := FS.bindsN fun _ _ _ _ _ _ us hl => match us, hl with | [_], _ => rfl
    have hu : (A.deeper (envOfC "_law_is" (defScope (top 79)) s.heap.objs.size f cdv)).units + 64 < cLine := by
      have := hr.un
      omega
    have nd : (["e", "spot", "sorts", "k"] : List Str).Nodup := sc_is.nd
    refine ⟨_, pss_cons (ps_set (i := 2) nd rfl (by first | exact Or.inl rfl | exact Or.inr rfl) (pe_callN GS hr rfl gS FS.kp bS (pa_cons (pv 0) pa_nil)))
      (pss_cons (ps_if (PW.pt (pw_or (pt_not (pt_up (k := k) (fs := fs) W hk (pv 0) rfl hmi (pe_glob (v := .ref (aPa K)) rfl W.pac.g rfl) (fun u z => z) (W.kitPa hk)))
          (pw_or1 (pt_not (pt_up (k := k) (fs := fs) W hk (pv 0) rfl hmi (pe_bltn (v := .ty "ValueError") rfl hmv (by decide +kernel) rfl) (fun u z => z) (W.kitVe hk))))))
        (pss_one (ps_ret pe_bl)) pss_nil)
      (pss_one (ps_ret (pe_cmpR (op_eqD hu)
        (pe_lcR (own := [("k", 3)]) nd rfl hmr (pa_cons (pe_callB call_len rfl hml boot_len (pa_cons (pv 2) pa_nil)) pa_nil) blk_is
          (fun _ _ _ _ _ => pg_name (i := 3) nd rfl (by first | exact Or.inl rfl | exact Or.inr rfl)) (fun _ _ _ _ _ => pts_one (pt_val (pe_ix (r := rIxL K) ix_list (pv 2) (pv 3) fun _ _ => rfl))) (fun _ _ _ _ _ => pv 3))
        (pe_lst (pa_cons (pv 1) pa_nil)) (nomark _))))), ?_⟩
    have pre : ∀ (σ : St) (H : Hp), σ[0]? = some (some (.ref a)) → ErrF H a (ad K k) fs → PreE K 0 k fs σ H := fun σ H h1 h2 => ⟨a, h1, h2⟩
    refine ⟨.ref a, rfl, k, a, fs, hk, rfl, hE, fun l H1 s1 n1 e1 => ?_⟩
    have E1 := hE.same s1
    refine ⟨pre _ _ rfl E1, ?_⟩
    refine iteF ⟨pre _ _ rfl E1, iteF ?_⟩
    -- the comprehension
    have hS : SqL K H1 l (sortsOf k) := .inl (.inl e1)
    refine ⟨.ref l, rfl, .ref l, (sortsOf k).length, rfl, .inl ⟨_, hS, rfl⟩, (sortsOf k).length, rfl, (by rw [sorts_len]; decide), fun D nD => ?_⟩
    refine ⟨fun i H2 => Same H1 H2 ∧ H2 D = some (.lst (if k < i then [.int (k : Nat)] else [])), ⟨same_upd nD, ?_⟩, fun i H2 w2 => hq.same (s1.trans w2.1), fun i H2 hi w2 => ?_, fun H2 w2 => ?_⟩
    · rw [if_neg (Nat.not_lt_zero k)]
      exact upd_same
    · -- a turn
      rw [sorts_len] at hi
      obtain ⟨s2, d2⟩ := w2
      refine ⟨rfl, ?_⟩
      refine ⟨.ref l, rfl, .int (i : Nat), rfl, l, _, (i : Nat), _, rfl, rfl, .inl (.inl (s2 _ _ e1)), atI_nat (sorts_at hi), _, rfl, ?_⟩
      refine ifd (fun e => ?_) (fun e => ?_)
      · subst e
        refine ⟨.int (k : Nat), rfl, _, d2, ?_, ?_⟩
        · rw [if_neg (Nat.lt_irrefl k)]
          exact small1000 (by decide)
        · refine ⟨fun b o z => ?_, ?_⟩
          · rw [upd_ne (ne_of_none z nD)]
            exact s2 _ _ z
          · rw [upd_same, if_neg (Nat.lt_irrefl k), if_pos (Nat.lt_succ_self k)]
            rfl
      · refine ⟨s2, ?_⟩
        rw [d2]
        by_cases h : k < i
        · rw [if_pos h, if_pos (by omega)]
        · rw [if_neg h, if_neg (by omega)]
    · -- the test
      obtain ⟨s2, d2⟩ := w2
      rw [if_pos (by rw [sorts_len]; exact hk)] at d2
      refine ⟨.int (k : Nat), rfl, small (Nat.le_of_ble_eq_true rfl), fun p1 np => ?_⟩
      refine ⟨.list [.int (k : Nat)], .list [.int (k : Nat)], .lst (.inl (.inl ?_)) (.cons (.int _) .nil), .lst (.inl (.inl upd_same)) (.cons (.int _) .nil), ?_, ?_, ?_⟩
      · rw [upd_ne (ne_of_none d2 np)]
        exact d2
      · kernel_rfl
      · kernel_rfl
      · have e : PyData.eqv (.list [.int (k : Nat)]) (.list [.int (k : Nat)]) = true := by simp [PyData.eqv, PyData.eqvAll]
        rw [e]
        exact q _ ((s1.trans s2).trans (same_upd np))
end
end EPL
-- part KB9
set_option maxHeartbeats 4000000
/-! B9: _law_cell, _law_box, _law_take. -/
namespace EPL
open PySem PySem.Spec PyProof.Rows L2 L2H
section
variable {P : Program} {w : World} {K : PySem.W.Frag} {mg : Str → Option Value} {base : Heap}
theorem if_dec {p : Prop} [Decidable p] {A B : Prop} (h1 : p → A) (h2 : ¬ p → B) : if decide p = true then A else B := by
  by_cases h : p
  · rw [decide_eq_true h]
    exact h1 h
  · rw [decide_eq_false h]
    exact h2 h
theorem cut_one {xs : List V} : cutV xs none (some 1) = xs.take 1 := by
  unfold cutV
  have e1 : HT.sIx xs.length 0 none = 0 := rfl
  have e2 : HT.sIx xs.length xs.length (some 1) = min 1 xs.length := HT.sIx_nat _ _ 1
  rw [e1, e2, List.drop_zero, Nat.sub_zero]
  cases xs with
  | nil => rfl
  | cons x r =>
    rw [show min 1 (x :: r).length = 1 from Nat.min_eq_left (by simp)]
/-! ### _law_cell -/
def spCellK (K : PySem.W.Frag) (A : Around) : Sp := fun vs H Q _ => A.handled = none ∧ ∃ (l : Addr) (ns : List Int) (k : Nat), vs = [.ref l, .int (k : Nat)] ∧ SqL K H l (ns.map V.int) ∧ ∀ i H', Same H H' → Q (.int i) H'
theorem sc_cell : FnScope ["script", "k"] ["script", "k"] (defScope (top 71)) := ⟨rfl, rfl, rfl, by decide +kernel, rfl, by decide +kernel, by decide +kernel⟩
theorem ok_cell {f : Addr} {fd : FuncData} (F : FnT K "_law_cell" 71 f fd) (hml : mg "len" = none) (hmi : mg "int" = none) (hms : mg "sum" = none) : FnN P w K mg base 1 f fd ["script", "k"] (spCellK K) := by
  refine fn_calm F sc_cell (fun A vs H Q E h => ?_) (fun A vs H Q E h => h.1) (fun cdv A outer s H vs Q E hr h => ?_)
  · obtain ⟨_, l, ns, k, rfl, _⟩ := h
    rfl
  · obtain ⟨_, l, ns, k, rfl, hS, q⟩ := h
    refine ⟨_, pss_one (ps_ret (pe_ifExp (pt_cmp (pc_lt (pv 1) (pe_callB call_len rfl hml boot_len (pa_cons (pv 0) pa_nil)))) (pe_ix ix_list (pv 0) (pv 1) fun _ _ => rfl)
      (pe_op op_add (pe_op op_mul pe_int (pv 1)) (pe_op op_mod (pe_callTy call_int1 rfl hmi (by decide +kernel) (pa_cons (pe_callB (cr_sum rfl) rfl hms (by decide +kernel) (pa_cons (pe_slice sl_list (pv 0) po_none (po_some pe_int)) pa_nil)) pa_nil)) pe_int)))), ?_⟩
    refine ⟨_, rfl, ⟨_, rfl, .ref l, (ns.map V.int).length, rfl, .inl ⟨_, hS, rfl⟩, _, _, rfl, rfl, ⟨_, rfl, if_dec (fun h => ?_) fun h => ?_⟩⟩⟩
    · have hj : k < ns.length := by
        rw [List.length_map] at h
        omega
      exact ⟨_, rfl, _, rfl, l, _, _, _, rfl, rfl, hS, atI_cell hj, q _ _ (Same.refl H)⟩
    · refine ⟨_, rfl, _, _, rfl, rfl, .inl (by decide), _, rfl, _, rfl, l, _, rfl, hS, fun p np => ⟨p, ns.take 1, rfl, .inl (.inl ?_), .inl ⟨_, rfl, _, _, rfl, rfl, (show (0 : Int) < 1000003 by decide), _, _, rfl, rfl, ?_⟩⟩⟩
      · rw [upd_same]
        rw [cut_one, List.map_take]
      · exact q _ _ (same_upd np)
/-! ### _law_box -/
/-- the box: what is left of the number, whether it was great, the rest that is mixed, the number of mixed draws -/
def bx (x0 : Int) (g : Bool) (x2 x3 : Int) : HO := .lst [.int x0, .bl g, .int x2, .int x3]
def spBox (A : Around) : Sp := fun vs H Q _ => A.handled = none ∧ ∃ i : Int, vs = [.int i] ∧ ∀ p x0 g x2, H p = none → 0 ≤ x0 → 0 ≤ x2 → x2 < 2147483629 → Q (.ref p) (upd H p (bx x0 g x2 0))
theorem sc_box : FnScope ["great"] ["great"] (defScope (top 72)) := ⟨rfl, rfl, rfl, by decide +kernel, rfl, by decide +kernel, by decide +kernel⟩
theorem abs_nn (i : Int) : (0 : Int) ≤ if i < 0 then -i else i := by
  split <;> omega
theorem ok_box {f : Addr} {fd : FuncData} (F : FnT K "_law_box" 72 f fd) (hma : mg "abs" = none) (hmi : mg "int" = none) : FnN P w K mg base 1 f fd ["great"] spBox := by
  refine fn_calm F sc_box (fun A vs H Q E h => ?_) (fun A vs H Q E h => h.1) (fun cdv A outer s H vs Q E hr h => ?_)
  · obtain ⟨_, i, rfl, _⟩ := h
    rfl
  · obtain ⟨_, i, rfl, q⟩ := h
    refine ⟨_, pss_one (ps_ret (pe_lst (pa_cons (pe_callB call_abs rfl hma (by decide +kernel) (pa_cons (pv 0) pa_nil)) (pa_cons (pe_cmpR op_ge (pe_callB call_abs rfl hma (by decide +kernel) (pa_cons (pv 0) pa_nil)) (pe_op op_pow pe_int pe_int) (nomark _))
      (pa_cons (pe_op op_mod (pe_callTy call_int1 rfl hmi (by decide +kernel) (pa_cons (pe_callB call_abs rfl hma (by decide +kernel) (pa_cons (pv 0) pa_nil)) pa_nil)) pe_int) (pa_cons pe_int pa_nil)))))), ?_⟩
    have hm : (0 : Int) < 2147483629 := by decide
    refine ⟨_, rfl, i, rfl, _, rfl, i, rfl, _, _, rfl, rfl, (⟨by decide, by decide, by decide⟩ : CPow 10 18), _, _, rfl, rfl, _, rfl, i, rfl, .inl ⟨_, rfl, _, _, rfl, rfl, hm, small (Nat.le_of_ble_eq_true rfl), fun p np => ?_⟩⟩
    exact q p _ _ _ np (abs_nn i) (Int.emod_nonneg _ (by decide)) (Int.emod_lt_of_pos _ hm)
/-! ### _law_take -/
def spTake (A : Around) : Sp := fun vs H Q _ => A.handled = none ∧ ∃ (b : Addr) (n : Nat) (x0 : Int) (g : Bool) (x2 x3 : Int), vs = [.ref b, .int (n : Nat)] ∧ 0 < n ∧ n ≤ 100 ∧ H b = some (bx x0 g x2 x3) ∧ 0 ≤ x0 ∧ 0 ≤ x2 ∧ x2 < 2147483629 ∧ 0 ≤ x3 ∧ x3 < 1000 ∧
  ∀ (d : Nat) (y0 y3 : Int), d < n → 0 ≤ y0 → 0 ≤ y3 → y3 ≤ x3 + 1 → Q (.int (d : Nat)) (upd H b (bx y0 g x2 y3))
theorem sc_take : FnScope ["box", "many", "digit", "mixed"] ["box", "many"] (defScope (top 73)) := ⟨rfl, rfl, rfl, by decide +kernel, rfl, by decide +kernel, by decide +kernel⟩
theorem mod_dig (i : Int) {n : Nat} (h : 0 < n) : ∃ d : Nat, i % (n : Int) = (d : Nat) ∧ d < n := by
  have h1 : 0 ≤ i % (n : Int) := Int.emod_nonneg i (by omega)
  have h2 : i % (n : Int) < (n : Int) := Int.emod_lt_of_pos i (by omega)
  exact ⟨(i % (n : Int)).toNat, by omega, by omega⟩
/-- a draw is done -/
def tTk (b : Addr) (n : Nat) (x0 : Int) (g : Bool) (x2 x3 : Int) : TS := fun D σ H => σ = [some (.ref b), some (.int (n : Nat)), none, none] ∧ H b = some (bx x0 g x2 x3) ∧
  ∀ (d : Nat) (y0 y3 : Int), d < n → 0 ≤ y0 → 0 ≤ y3 → y3 ≤ x3 + 1 → D.rt (.int (d : Nat)) (upd H b (bx y0 g x2 y3))
theorem bx_at {H : Hp} {b : Addr} {x0 x2 x3 : Int} {g : Bool} (h : H b = some (bx x0 g x2 x3)) : SqL K H b [.int x0, .bl g, .int x2, .int x3] := .inl (.inl h)
theorem ok_take {f : Addr} {fd : FuncData} (F : FnT K "_law_take" 73 f fd) (hmi : mg "int" = none) : FnN P w K mg base 1 f fd ["box", "many"] spTake := by
  refine fn_calm F sc_take (fun A vs H Q E h => ?_) (fun A vs H Q E h => h.1) (fun cdv A outer s H vs Q E hr h => ?_)
  · obtain ⟨_, b, n, x0, g, x2, x3, rfl, _⟩ := h
    rfl
  · obtain ⟨_, b, n, x0, g, x2, x3, rfl, hn, hn2, hb, p0, p2, u2, p3, u3, q⟩ := h
    have nd : (["box", "many", "digit", "mixed"] : List Str).Nodup := sc_take.nd
    have hn0 : (0 : Int) < (n : Nat) := by omega
    refine ⟨_, pss_cons (ps_if (PW.pt (pw_and (pt_val (pe_ix (r := rIxL K) ix_list (pv 0) pe_int fun _ _ => rfl)) (pw_and1 (pt_cmpR op_gt (pe_ix (r := rIxL K) ix_list (pv 0) pe_int fun _ _ => rfl) pe_int (nomark _)))))
        (pss_imp (t' := tTk b n x0 g x2 x3) (pss_cons (ps_set (i := 2) nd rfl (by first | exact Or.inl rfl | exact Or.inr rfl) (pe_op op_mod (pe_callTy call_int1 rfl hmi (by decide +kernel) (pa_cons (pe_ix (r := rIxL K) ix_list (pv 0) pe_int fun _ _ => rfl) pa_nil)) (pv 1)))
          (pss_cons (ps_asg (pe_op op_fdiv (pe_ix (r := rIxL K) ix_list (pv 0) pe_int fun _ _ => rfl) (pv 1)) (pg_sub (pv 0) pe_int set_list))
            (pss_one (ps_ret (pv 2))))) ?_) pss_nil)
      (pss_imp (t' := tTk b n x0 g x2 x3) (pss_cons (ps_asg (pe_op op_add (pe_ix (r := rIxL K) ix_list (pv 0) pe_int fun _ _ => rfl) pe_int) (pg_sub (pv 0) pe_int set_list))
        (pss_cons (ps_set (i := 3) nd rfl (by first | exact Or.inl rfl | exact Or.inr rfl) (pe_op op_mod (pe_callTy call_int1 rfl hmi (by decide +kernel) (pa_cons (pe_op op_pow (pe_op op_add (pe_op op_add (pe_ix (r := rIxL K) ix_list (pv 0) pe_int fun _ _ => rfl) (pe_op op_mul pe_int (pe_ix (r := rIxL K) ix_list (pv 0) pe_int fun _ _ => rfl))) pe_int) pe_int) pa_nil)) pe_int))
          (pss_one (ps_ret (pe_op op_mod (pe_op op_fdiv (pe_op op_mod (pe_callTy call_int1 rfl hmi (by decide +kernel) (pa_cons (pe_op op_pow (pe_op op_add (pe_op op_mul (pv 3) pe_int) (pe_op op_mul pe_int (pe_ix (r := rIxL K) ix_list (pv 0) pe_int fun _ _ => rfl))) pe_int) pa_nil)) pe_int) pe_int) (pv 1)))))) ?_), ?_⟩
    · -- off the great number
      intro D σ H1 h
      obtain ⟨rfl, h1, q1⟩ := h
      obtain ⟨d, ed, hd⟩ := mod_dig x0 hn
      refine ⟨_, rfl, b, _, _, _, rfl, rfl, bx_at h1, rfl, .inl ⟨_, rfl, _, rfl, _, _, rfl, rfl, hn0, ?_⟩⟩
      refine ⟨_, rfl, b, _, _, _, rfl, rfl, bx_at h1, rfl, _, rfl, _, _, rfl, rfl, ⟨hn0, by omega⟩, _, rfl, b, _, 0, 0, rfl, rfl, h1, rfl, _, rfl, ?_⟩
      show D.rt (.int (x0 % (n : Int))) (upd H1 b (bx (x0 / (n : Int)) g x2 x3))
      rw [ed]
      exact q1 d _ _ hd (Int.ediv_nonneg p0 (by omega)) p3 (by omega)
    · -- mixed
      intro D σ H1 h
      obtain ⟨rfl, h1, q1⟩ := h
      refine ⟨_, rfl, b, _, _, _, rfl, rfl, bx_at h1, rfl, _, _, rfl, rfl, _, rfl, b, _, 3, 3, rfl, rfl, h1, rfl, ?_⟩
      have h2 : upd H1 b (bx x0 g x2 (x3 + 1)) b = some (bx x0 g x2 (x3 + 1)) := upd_same
      refine ⟨_, rfl, b, _, _, _, rfl, rfl, bx_at h2, rfl, _, rfl, b, _, _, _, rfl, rfl, bx_at h2, rfl, _, _, rfl, rfl, .inl (by decide), _, _, rfl, rfl, _, _, rfl, rfl, _, _, rfl, rfl, ⟨by decide, by decide, ?_⟩, .inl ⟨_, rfl, _, _, rfl, rfl, (show (0 : Int) < 2147483647 by decide), ?_⟩⟩
      · omega
      · generalize (x2 + 15485867 * (x3 + 1) + 179425033) ^ (5 : Int).toNat = big
        refine ⟨_, rfl, _, _, rfl, rfl, .inr (by decide), _, rfl, b, _, _, _, rfl, rfl, bx_at h2, rfl, _, _, rfl, rfl, .inl (by decide), _, _, rfl, rfl, _, _, rfl, rfl, ⟨by decide, by decide, ?_⟩, .inl ⟨_, rfl, _, _, rfl, rfl, (show (0 : Int) < 2147483587 by decide), _, _, rfl, rfl, (⟨by decide, by decide⟩ : CDiv _ 64), _, rfl, _, _, rfl, rfl, hn0, ?_⟩⟩
        · show (big % 2147483647 * 48271 + 7919 * (x3 + 1)).natAbs < 2 ^ 64
          omega
        · obtain ⟨d, ed, hd⟩ := mod_dig ((big % 2147483647 * 48271 + 7919 * (x3 + 1)) ^ (3 : Int).toNat % 2147483587 / 64) hn
          show D.rt (.int ((big % 2147483647 * 48271 + 7919 * (x3 + 1)) ^ (3 : Int).toNat % 2147483587 / 64 % (n : Int))) (upd H1 b (bx x0 g x2 (x3 + 1)))
          rw [ed]
          exact q1 d _ _ hd p0 (by omega) (by omega)
    · have fin : tTk b n x0 g x2 x3 { nx := fun _ H' => Q .non H', rt := Q } (L2.start ["box", "many", "digit", "mixed"] [.ref b, .int (n : Nat)]) H := ⟨rfl, hb, q⟩
      refine ⟨_, rfl, b, _, _, _, rfl, rfl, bx_at hb, rfl, g, rfl, ?_⟩
      cases g with
      | false => exact fin
      | true =>
        refine ⟨_, rfl, b, _, _, _, rfl, rfl, bx_at hb, rfl, _, _, rfl, rfl, _, rfl, if_dec (fun _ => ?_) fun _ => ?_⟩
        · exact ⟨fin.1, fin.2.1, fin.2.2⟩
        · exact fin
end
end EPL
-- part KB10
set_option maxHeartbeats 4000000
/-! B10: _law_thing, what its things look like. -/
namespace EPL
open PySem PySem.Spec PyProof.Rows L2 L2H
/-! ### data -/
/-- shown in at most n signs, at most m deep -/
def Okn (n m : Nat) (d : PyData) : Prop := d.showable = true ∧ d.shown.length ≤ n ∧ d.depth ≤ m
theorem show_all : ∀ {ds : List PyData}, (∀ d ∈ ds, d.showable = true) → PyData.showableAll ds = true
  | [], _ => by simp only [PyData.showableAll]
  | d :: ds, h => by
    simp only [PyData.showableAll, Bool.and_eq_true]
    exact ⟨h d List.mem_cons_self, show_all fun x hx => h x (List.mem_cons_of_mem _ hx)⟩
theorem depth_all {m : Nat} : ∀ {ds : List PyData}, (∀ d ∈ ds, d.depth ≤ m) → PyData.depthAll ds ≤ m
  | [], _ => by
    simp only [PyData.depthAll]
    exact Nat.zero_le _
  | d :: ds, h => by
    simp only [PyData.depthAll]
    exact Nat.max_le.mpr ⟨h d List.mem_cons_self, depth_all fun x hx => h x (List.mem_cons_of_mem _ hx)⟩
theorem sum_all {n : Nat} : ∀ {ds : List PyData}, (∀ d ∈ ds, d.shown.length ≤ n) → ((PyData.shownAll ds).map (·.length)).sum ≤ n * ds.length ∧ (PyData.shownAll ds).length = ds.length
  | [], _ => by
    simp only [PyData.shownAll]
    exact ⟨Nat.zero_le _, rfl⟩
  | d :: ds, h => by
    have h1 := h d List.mem_cons_self
    obtain ⟨h2, h3⟩ := sum_all fun x hx => h x (List.mem_cons_of_mem _ hx)
    simp only [PyData.shownAll, List.map_cons, List.sum_cons, List.length_cons, h3]
    refine ⟨?_, trivial⟩
    rw [Nat.mul_add, Nat.mul_one]
    omega
theorem okn_list {n m k : Nat} {ds : List PyData} (h : ∀ d ∈ ds, Okn n m d) (hk : ds.length ≤ k) : Okn ((n + 2) * k + 2) (m + 1) (.list ds) := by
  refine ⟨?_, ?_, ?_⟩
  · simp only [PyData.showable]
    exact show_all fun d hd => (h d hd).1
  · simp only [PyData.shown]
    obtain ⟨h1, h2⟩ := sum_all (n := n) fun d hd => (h d hd).2.1
    unfold listText
    have h3 := textFrom_len_le (PyData.shownAll ds) 0 "["
    have h4 : (textFrom 0 "[" (PyData.shownAll ds) ++ "]").length = (textFrom 0 "[" (PyData.shownAll ds)).length + 1 := Str.length_append _ _
    rw [h4]
    have h5 : (Str.ofString "[").length = 1 := by decide +kernel
    have h6 : n * ds.length ≤ n * k := Nat.mul_le_mul_left _ hk
    rw [h5, h2] at h3
    rw [Nat.add_mul]
    omega
  · simp only [PyData.depth]
    exact Nat.succ_le_succ (depth_all fun d hd => (h d hd).2.2)
theorem Okn.mono {n m n' m' : Nat} {d : PyData} (h : Okn n m d) (hn : n ≤ n') (hm : m ≤ m') : Okn n' m' d := ⟨h.1, Nat.le_trans h.2.1 hn, Nat.le_trans h.2.2 hm⟩
/-- the menu -/
def menuD : List PyData := [.none, .bool true, .bool false, .int 0, .int 7, .str "", .str "hp", .list [], .list [.int 1, .str "a"], .tuple [], .tuple [.int 1, .bool true], .dict [], .dict [(.str "a", .list [.int 3])], .int (-(10 ^ 29)), .str "toss"]
theorem okn_menu : ∀ d ∈ menuD, Okn 100 4 d := by
  have h : (menuD.all fun d => d.showable && (decide (d.shown.length ≤ 100) && decide (d.depth ≤ 4))) = true := by decide +kernel
  intro d hd
  have h1 := List.all_eq_true.mp h d hd
  obtain ⟨a, b⟩ := He.ba h1
  obtain ⟨b, c⟩ := He.ba b
  exact ⟨a, of_decide_eq_true b, of_decide_eq_true c⟩
/-! ### the heap beside the box -/
theorem del_grow {b : Addr} {H H' : Hp} (s : Same H H') : Same (del H b) (del H' b) := fun a o h => by
  unfold del at h ⊢
  by_cases e : a = b
  · rw [if_pos e] at h
    cases h
  · rw [if_neg e] at h ⊢
    exact s _ _ h
theorem del_upd {b : Addr} {H : Hp} {o : HO} : del (upd H b o) b = del H b := by
  funext a
  unfold del upd
  by_cases e : a = b
  · rw [if_pos e, if_pos e]
  · rw [if_neg e, if_neg e, if_neg e]
theorem del_sub {b : Addr} {H : Hp} : Same (del H b) H := fun a o h => by
  unfold del at h
  by_cases e : a = b
  · rw [if_pos e] at h
    cases h
  · rw [if_neg e] at h
    exact h
section
variable {P : Program} {w : World} {K : PySem.W.Frag} {mg : Str → Option Value} {base : Heap}
/-- a box, its numbers in bounds -/
structure BoxAt (H : Hp) (b : Addr) (g : Bool) (x2 : Int) (m : Nat) : Prop where
  ex : ∃ x0 x3 : Int, H b = some (bx x0 g x2 x3) ∧ 0 ≤ x0 ∧ 0 ≤ x2 ∧ x2 < 2147483629 ∧ 0 ≤ x3 ∧ x3 ≤ (m : Nat)
theorem BoxAt.same {H H' : Hp} {b : Addr} {g : Bool} {x2 : Int} {m : Nat} (h : BoxAt H b g x2 m) (s : Same H H') : BoxAt H' b g x2 m := by
  obtain ⟨x0, x3, h1, h2⟩ := h.ex
  exact ⟨x0, x3, s _ _ h1, h2⟩
/-- take, in short -/
theorem take_ok {A : Around} {H : Hp} {Q : VK} {b : Addr} {n m : Nat} {g : Bool} {x2 : Int} (ha : A.handled = none) (hn : 0 < n) (hn2 : n ≤ 100) (h : BoxAt H b g x2 m) (hm : m < 900)
    (q : ∀ (d : Nat) (o : HO), d < n → BoxAt (upd H b o) b g x2 (m + 1) → Q (.int (d : Nat)) (upd H b o)) : spTake A [.ref b, .int (n : Nat)] H Q E0 := by
  obtain ⟨x0, x3, h1, h2, h3, h4, h5, h6⟩ := h.ex
  exact ⟨ha, b, n, x0, g, x2, x3, rfl, hn, hn2, h1, h2, h3, h4, h5, (by omega), fun d y0 y3 hd a1 a2 a3 => q d _ hd ⟨y0, y3, upd_same, a1, h3, h4, a2, (by omega)⟩⟩
/-- a thing of the menu; the box is one draw further -/
def spThing (K : PySem.W.Frag) (A : Around) : Sp := fun vs H Q _ => A.handled = none ∧ ∃ (b : Addr) (g : Bool) (x2 : Int) (m : Nat), vs = [.ref b] ∧ BoxAt H b g x2 m ∧ m < 900 ∧
  ∀ v d H', d ∈ menuD → Same (del H b) (del H' b) → BoxAt H' b g x2 (m + 1) → Dq K (del H' b) v d → Q v H'
theorem sc_thing : FnScope ["box", "menu"] ["box"] (defScope (top 80)) := ⟨rfl, rfl, rfl, by decide +kernel, rfl, by decide +kernel, by decide +kernel⟩
/-- a thing of this look stands there, whatever is in the box -/
def RD (K : PySem.W.Frag) (b : Addr) (H : Hp) (d : PyData) (v : V) : Prop := Dq K (del H b) v d
theorem rd_grows {b : Addr} : Grows (RD K b) := fun H H' d v s h => Dq.same (del_grow s) h
def PreB (b : Addr) (g : Bool) (x2 : Int) (m : Nat) (σ : St) (H : Hp) : Prop := σ[0]? = some (some (.ref b)) ∧ BoxAt H b g x2 m
theorem preb_stay {b : Addr} {g : Bool} {x2 : Int} {m : Nat} : Stay 1 (PreB b g x2 m) := ⟨fun σ H H' s h => ⟨h.1, h.2.same s⟩, fun σ H v h => ⟨by rw [List.getElem?_set_ne (by decide)]; exact h.1, h.2⟩⟩
theorem del_other {b p : Addr} {H : Hp} (h : p ≠ b) : del H b p = H p := if_neg h
theorem a2_mem {R : PyData → V → Prop} {n : Nat} : ∀ {ds : List PyData} {vs : List V}, A2 R ds vs → n < ds.length → ∃ d v, vs[n]? = some v ∧ d ∈ ds ∧ R d v := by
  intro ds vs h hn
  obtain ⟨v, h1, h2⟩ := h.get (List.getElem?_eq_getElem hn)
  exact ⟨_, v, h1, List.getElem_mem hn, h2⟩
theorem BoxAt.ne {H : Hp} {b p : Addr} {g : Bool} {x2 : Int} {m : Nat} (h : BoxAt H b g x2 m) (hp : H p = none) : p ≠ b := by
  obtain ⟨x0, x3, h1, _⟩ := h.ex
  exact (ne_of_none h1 hp).symm
section
variable {X : Cx} {b : Addr} {g : Bool} {x2 : Int} {m : Nat} {e : Expr} {v : V} {d : PyData}
theorem el_const (h : PE X e (tC v)) (hd : ∀ H, Dq K H v d) : PE X e (tEl (PreB b g x2 m) (RD K b) d) := pe_imp h fun σ H Q q => q.2 _ H (Same.refl H) (hd _)
theorem el_lst {es : List Expr} {pos : Pos} {ds : List PyData} (hn : ds.length ≤ 1000) (h : PA X es (tEls (PreB b g x2 m) (RD K b) ds)) (hl : ∀ H vs, A2 (RD K b H) ds vs → DqAll K (del H b) vs ds) : PE X (.List es pos) (tEl (PreB b g x2 m) (RD K b) (.list ds)) :=
  pe_imp (pe_lst h) fun σ H Q q => ⟨q.1, fun vs H1 s1 a1 => ⟨small (a1.length ▸ hn), fun p np => by
    have s2 : Same H1 (upd H1 p (.lst vs)) := same_upd np
    have nb := (q.1.2.same s1).ne np
    exact q.2 _ _ (s1.trans s2) (.lst (.inl (.inl (by rw [del_other nb, upd_same]))) (DqAll.same (del_grow s2) (hl _ _ a1)))⟩⟩
theorem el_tup {es : List Expr} {x1 : Nat} {pos : Pos} {ds : List PyData} (hn : ds.length ≤ 1000) (h : PA X es (tEls (PreB b g x2 m) (RD K b) ds)) (hl : ∀ H vs, A2 (RD K b H) ds vs → DqAll K (del H b) vs ds) : PE X (.Tuple es x1 pos) (tEl (PreB b g x2 m) (RD K b) (.tuple ds)) :=
  pe_imp (pe_tup h) fun σ H Q q => ⟨q.1, fun vs H1 s1 a1 => ⟨small (a1.length ▸ hn), fun p np => by
    have s2 : Same H1 (upd H1 p (.tup vs)) := same_upd np
    have nb := (q.1.2.same s1).ne np
    exact q.2 _ _ (s1.trans s2) (.tup (.inl (.inl (by rw [del_other nb, upd_same]))) (DqAll.same (del_grow s2) (hl _ _ a1)))⟩⟩
theorem dq_all {H : Hp} : ∀ {ds : List PyData} {vs : List V}, A2 (RD K b H) ds vs → DqAll K (del H b) vs ds
  | _, _, .nil => .nil
  | _, _, .cons h t => .cons h (dq_all t)
end
theorem ok_thing {f fT : Addr} {fd fdT : FuncData} (F : FnT K "_law_thing" 80 f fd) (FT : FnT K "_law_take" 73 fT fdT) (gT : mg "_law_take" = some (.ref fT)) (hmi : mg "int" = none) (hmd : mg "dict" = none) : FnN P w K mg base 2 f fd ["box"] (spThing K) := by
  have GT : FnN P w K mg base 1 fT fdT ["box", "many"] spTake := ok_take FT hmi
  have bT : Binds K fdT ["box", "many"] [] := FT.bindsN fun _ _ _ _ _ _ us hl => match us, hl with | [_, _], _ => rfl
  refine fn_calm F sc_thing (fun A vs H Q E h => ?_) (fun A vs H Q E h => h.1) (fun cdv A outer s H vs Q E hr h => ?_)
  · obtain ⟨_, b, g, x2, m, rfl, _⟩ := h
    rfl
  · obtain ⟨hA, b, g, x2, m, rfl, hb, hm, q⟩ := h
    have nd : (["box", "menu"] : List Str).Nodup := sc_thing.nd
    have st : Stay 1 (PreB b g x2 m) := preb_stay
    have gr : Grows (RD K b) := rd_grows
    have hr1 : RoomH 1 (A.deeper (envOfC "_law_thing" (defScope (top 80)) s.heap.objs.size f cdv)) := ⟨hr.dp, hr.un⟩
    refine ⟨_, pss_cons (ps_set (i := 1) nd rfl (by first | exact Or.inl rfl | exact Or.inr rfl) (pe_lst (pa_imp (t' := tEls (PreB b g x2 m) (RD K b) menuD)
      (els_cons st gr (el_const pe_non fun _ => .non) (els_cons st gr (el_const pe_bl fun _ => .bl _) (els_cons st gr (el_const pe_bl fun _ => .bl _) (els_cons st gr (el_const pe_int fun _ => .int _) (els_cons st gr (el_const pe_int fun _ => .int _)
      (els_cons st gr (el_const pe_str fun _ => .str _) (els_cons st gr (el_const pe_str fun _ => .str _) (els_cons st gr (el_lst (by decide) els_nil fun _ _ => dq_all)
      (els_cons st gr (el_lst (by decide) (els_cons st gr (el_const pe_int fun _ => .int _) (els_cons st gr (el_const pe_str fun _ => .str _) els_nil)) fun _ _ => dq_all)
      (els_cons st gr (el_tup (by decide) els_nil fun _ _ => dq_all)
      (els_cons st gr (el_tup (by decide) (els_cons st gr (el_const pe_int fun _ => .int _) (els_cons st gr (el_const pe_bl fun _ => .bl _) els_nil)) fun _ _ => dq_all)
      (els_cons st gr (pe_imp (t' := tEl (PreB b g x2 m) (RD K b) (.dict [])) pe_dnewK ?_)
      (els_cons st gr (pe_imp (t' := tEl (PreB b g x2 m) (RD K b) (.dict [(.str "a", .list [.int 3])])) (pe_callTy (call_dictP rfl) rfl hmd (by decide +kernel) (pa_cons (pe_lst (pa_cons (pe_tup (pa_cons pe_str (pa_cons (pe_lst (pa_cons pe_int pa_nil)) pa_nil))) pa_nil)) pa_nil)) ?_)
      (els_cons st gr (pe_imp (t' := tEl (PreB b g x2 m) (RD K b) (.int (-(10 ^ 29)))) (pe_un un_neg (pe_op op_pow pe_int pe_int)) ?_)
      (els_cons st gr (el_const pe_str fun _ => .str _) els_nil))))))))))))))) fun σ H Q h => h)))
      (pss_one (ps_ret (pe_ix (r := rIxL K) ix_list (pv 1) (pe_callN GT hr1 rfl gT FT.kp bT (pa_cons (pv 0) (pa_cons pe_int pa_nil))) fun _ _ => rfl))), ?_⟩
    · intro σ H Q h p np
      have nb := h.1.2.ne np
      exact h.2 _ _ (same_upd np) (.dct (ks := []) (xs := []) (by rw [del_other nb, upd_same]; rfl) rfl .nil)
    · intro σ H Q h
      refine ⟨small (by decide), fun p1 n1 => ?_⟩
      have s1 : Same H (upd H p1 (.lst [.int 3])) := same_upd n1
      have b1 := h.1.2.same s1
      refine ⟨small (Nat.le_of_ble_eq_true rfl), fun p2 n2 => ?_⟩
      have s2 : Same (upd H p1 (.lst [.int 3])) (upd (upd H p1 (.lst [.int 3])) p2 (.tup [.str "a", .ref p1])) := same_upd n2
      have b2 := b1.same s2
      refine ⟨small (Nat.le_of_ble_eq_true rfl), fun p3 n3 => ?_⟩
      have s3 : Same (upd (upd H p1 (.lst [.int 3])) p2 (.tup [.str "a", .ref p1])) (upd (upd (upd H p1 (.lst [.int 3])) p2 (.tup [.str "a", .ref p1])) p3 (.lst [.ref p2])) := same_upd n3
      have b3 := b2.same s3
      have i1 := s3 _ _ (s2 _ _ (upd_same (H := H) (a := p1) (o := .lst [.int 3])))
      have i2 := s3 _ _ (upd_same (H := upd H p1 (.lst [.int 3])) (a := p2) (o := .tup [.str "a", .ref p1]))
      have i3 := upd_same (H := upd (upd H p1 (.lst [.int 3])) p2 (.tup [.str "a", .ref p1])) (a := p3) (o := .lst [.ref p2])
      have k1 := h.1.2.ne n1
      have ss := (s1.trans s2).trans s3
      generalize upd (upd (upd H p1 (.lst [.int 3])) p2 (.tup [.str "a", .ref p1])) p3 (.lst [.ref p2]) = H3 at *
      refine ⟨p3, [p2], [(.inr "a", .ref p1)], rfl, .inl (.inl i3), .cons (.inl (.inl i2)) .nil, fun p4 n4 => ?_⟩
      have s4 : Same H3 (upd H3 p4 (.dK [(.inr "a", .ref p1)])) := same_upd n4
      have k4 := b3.ne n4
      exact h.2 _ _ (ss.trans s4) (.dct (ks := ["a"]) (xs := [.ref p1]) (by rw [del_other k4]; exact upd_same) rfl (.cons (.lst (.inl (.inl (by rw [del_other k1]; exact s4 _ _ i1))) (.cons (.int 3) .nil)) .nil))
    · intro σ H Q h
      exact ⟨_, _, rfl, rfl, ⟨by decide, by decide, by decide⟩, _, rfl, h.2 _ H (Same.refl H) (.int _)⟩
    · refine ⟨⟨rfl, hb⟩, fun vs H1 s1 a1 => ⟨small (a1.length ▸ (by decide : menuD.length ≤ 1000)), fun p np => ?_⟩⟩
      have b1 := hb.same s1
      have k1 := b1.ne np
      have s2 : Same H1 (upd H1 p (.lst vs)) := same_upd np
      refine ⟨.ref p, rfl, .ref b, rfl, ?_⟩
      show spTake (A.deeper (envOfC "_law_thing" (defScope (top 80)) s.heap.objs.size f cdv)) [.ref b, .int ((15 : Nat) : Int)] (upd H1 p (.lst vs)) (fun y H2 => rIxL K (.ref p) y H2 Q) E0
      refine take_ok (A := A.deeper (envOfC "_law_thing" (defScope (top 80)) s.heap.objs.size f cdv)) (n := 15) hA (by decide) (by decide) (b1.same s2) hm fun d o hd hb2 => ?_
      obtain ⟨dd, v, hv, hm2, hD⟩ := a2_mem (n := d) a1 hd
      refine ⟨p, vs, _, v, rfl, rfl, .inl (.inl ?_), atI_nat hv, ?_⟩
      · rw [upd_ne k1]
        exact upd_same
      · have s3 : Same (del H b) (del (upd (upd H1 p (.lst vs)) b o) b) := by
          rw [del_upd]
          exact del_grow (s1.trans s2)
        refine q v dd _ hm2 s3 hb2 ?_
        rw [del_upd]
        exact Dq.same (del_grow s2) hD
end
end EPL
-- part KB11
set_option maxHeartbeats 4000000
/-! B11: rules in short: what is kept, shown, asked. -/
namespace EPL
open PySem PySem.Spec PyProof.Rows L2 L2H
section
variable {X : Cx}
theorem pe_ex {ι : Type} {e : Expr} {t : ι → TE} (h : ∀ z, PE X e (t z)) : PE X e (fun σ H Q => ∃ z, t z σ H Q) := ⟨fun pins s σ H Q I ⟨z, q⟩ => (h z).run pins s σ H Q I q⟩
theorem pt_ex {ι : Type} {e : Expr} {t : ι → TT} (h : ∀ z, PT X e (t z)) : PT X e (fun σ H Q => ∃ z, t z σ H Q) := ⟨fun pins s σ H Q I ⟨z, q⟩ => (h z).run pins s σ H Q I q⟩
theorem pt_imp {e : Expr} {t t' : TT} (h : PT X e t) (i : ∀ σ H Q, t' σ H Q → t σ H Q) : PT X e t' := ⟨fun pins s σ H Q I q => h.run pins s σ H Q I (i _ _ _ q)⟩
theorem pss_ex {ι : Type} {e : List Stmt} {t : ι → TS} (h : ∀ z, PSs X e (t z)) : PSs X e (fun D σ H => ∃ z, t z D σ H) := ⟨fun pins s σ H D I ⟨z, q⟩ => (h z).run pins s σ H D I q⟩
/-- data of this look -/
def RQ (K : PySem.W.Frag) (H : Hp) (d : PyData) (v : V) : Prop := Dq K H v d
theorem rq_grows {K : PySem.W.Frag} : Grows (RQ K) := fun H H' d v s h => Dq.same s h
/-- holds whatever is laid beside -/
def Lay (Pre : St → Hp → Prop) : Prop := ∀ σ H H', Same H H' → Pre σ H → Pre σ H'
/-- repr(a) != repr(b), both of one look: no -/
def tSameS (Pre : St → Hp → Prop) : TT := fun σ H Q => Pre σ H ∧ ∀ H', Same H H' → Q false H'
theorem pt_reprNe {a b : Expr} {p1 p2 p3 p4 p5 : Pos} {d : PyData} {Pre : St → Hp → Prop} (S : SysK X.K) (hg : X.A.guards = some []) (hu : X.A.units + 64 < cLine) (ly : Lay Pre) (hgr : Gl X "repr") (hmr : X.mg "repr" = none) (ok : Okn 10000 20 d)
    (ha : PE X a (tEl Pre (RQ X.K) d)) (hb : PE X b (tEl Pre (RQ X.K) d)) (sa : starEach [a] X.env = (false, eval a X.env) :: starEach [] X.env := by rfl) (sb : starEach [b] X.env = (false, eval b X.env) :: starEach [] X.env := by rfl) :
    PT X (.Compare (.Call (.Name "repr" p1) [a] [] p2) [.NotEq] [.Call (.Name "repr" p3) [b] [] p4] p5) (tSameS Pre) := by
  have h := pt_cmpR (pos := p5) op_ne (pe_callB (pos := p2) (p := p1) (call_rep S hg hu) hgr hmr (by decide +kernel) (pa_cons ha pa_nil sa) (by decide) (by decide) sa)
    (pe_callB (pos := p4) (p := p3) (call_rep S hg hu) hgr hmr (by decide +kernel) (pa_cons hb pa_nil sb) (by decide) (by decide) sb) (nomark _)
  refine pt_imp h fun σ H Q q => ?_
  have z1 : d.shown.length ≤ sizeLine := Nat.le_trans ok.2.1 (by decide)
  have z2 : d.depth ≤ 32 := Nat.le_trans ok.2.2 (by decide)
  refine ⟨q.1, fun v H1 s1 r1 => ⟨v, d, rfl, r1, ok.1, z1, z2, ly _ _ _ s1 q.1, fun v2 H2 s2 r2 => ⟨v2, d, rfl, r2, ok.1, z1, z2, rfl, _, rfl, ?_⟩⟩⟩
  rw [decide_eq_true rfl]
  exact q.2 H2 (s1.trans s2)
/-- repr(a) == repr(b) as a value: yes -/
def tSameV (Pre : St → Hp → Prop) : TE := fun σ H Q => Pre σ H ∧ ∀ H', Same H H' → Q (.bl true) H'
theorem pe_reprEq {a b : Expr} {p1 p2 p3 p4 p5 : Pos} {d : PyData} {Pre : St → Hp → Prop} (S : SysK X.K) (hg : X.A.guards = some []) (hu : X.A.units + 64 < cLine) (ly : Lay Pre) (hgr : Gl X "repr") (hmr : X.mg "repr" = none) (ok : Okn 10000 20 d)
    (ha : PE X a (tEl Pre (RQ X.K) d)) (hb : PE X b (tEl Pre (RQ X.K) d)) (sa : starEach [a] X.env = (false, eval a X.env) :: starEach [] X.env := by rfl) (sb : starEach [b] X.env = (false, eval b X.env) :: starEach [] X.env := by rfl) :
    PE X (.Compare (.Call (.Name "repr" p1) [a] [] p2) [.Eq] [.Call (.Name "repr" p3) [b] [] p4] p5) (tSameV Pre) := by
  have h := pe_cmpR (pos := p5) op_eq (pe_callB (pos := p2) (p := p1) (call_rep S hg hu) hgr hmr (by decide +kernel) (pa_cons ha pa_nil sa) (by decide) (by decide) sa)
    (pe_callB (pos := p4) (p := p3) (call_rep S hg hu) hgr hmr (by decide +kernel) (pa_cons hb pa_nil sb) (by decide) (by decide) sb) (nomark _)
  refine pe_imp h fun σ H Q q => ?_
  have z1 : d.shown.length ≤ sizeLine := Nat.le_trans ok.2.1 (by decide)
  have z2 : d.depth ≤ 32 := Nat.le_trans ok.2.2 (by decide)
  refine ⟨q.1, fun v H1 s1 r1 => ⟨v, d, rfl, r1, ok.1, z1, z2, ly _ _ _ s1 q.1, fun v2 H2 s2 r2 => ⟨v2, d, rfl, r2, ok.1, z1, z2, rfl, ?_⟩⟩⟩
  rw [decide_eq_true rfl]
  exact q.2 H2 (s1.trans s2)
/-- [e, ..] of data -/
theorem pe_lstD {es : List Expr} {pos : Pos} {ds : List PyData} {Pre : St → Hp → Prop} (hn : ds.length ≤ 1000) (h : PA X es (tEls Pre (RQ X.K) ds)) : PE X (.List es pos) (tEl Pre (RQ X.K) (.list ds)) :=
  pe_imp (pe_lst h) fun σ H Q q => ⟨q.1, fun vs H1 s1 a1 => ⟨small (a1.length ▸ hn), fun p np => by
    have s2 : Same H1 (upd H1 p (.lst vs)) := same_upd np
    have all : ∀ {ds : List PyData} {vs : List V}, A2 (RQ X.K H1) ds vs → DqAll X.K H1 vs ds := fun {ds vs} a => by
      induction a with
      | nil => exact .nil
      | cons h t ih => exact .cons h ih
    exact q.2 _ _ (s1.trans s2) (.lst (.inl (.inl upd_same)) (DqAll.same s2 (all a1)))⟩⟩
/-- a name that stands for data -/
theorem pe_varD {x : Str} {p : Pos} {i : Nat} {d : PyData} {Pre : St → Hp → Prop} (hx : PE X (.Name x p) (tVar i)) (hp : ∀ σ H, Pre σ H → ∃ v, σ[i]? = some (some v) ∧ Dq X.K H v d) : PE X (.Name x p) (tEl Pre (RQ X.K) d) :=
  pe_imp hx fun σ H Q q => by
    obtain ⟨v, e, hd⟩ := hp _ _ q.1
    exact ⟨v, e, q.2 v H (Same.refl H) hd⟩
/-- a def by its name: its promise, how it binds -/
def Cal (P : Program) (w : World) (K : PySem.W.Frag) (mg : Str → Option Value) (base : Heap) (x : Str) (k : Nat) (ps : List Str) (sp : Around → Sp) : Prop :=
  ∃ f fd, FnN P w K mg base k f fd ps sp ∧ mg x = some (.ref f) ∧ PySem.W.keepIn K (.ref f) = true ∧ Binds K fd ps []
theorem pe_cal {x : Str} {k : Nat} {ps : List Str} {sp : Around → Sp} {q pos : Pos} {e : Expr} {es : List Expr} {t : TA} (c : Cal X.prog X.w X.K X.mg X.base x k ps sp) (hr : RoomH k X.A) (hg : Gl X x) (ha : PA X (e :: es) t)
    (hdb : (x == ("__debug__" : Str)) = false := by decide) (he : starEach (e :: es) X.env = (false, eval e X.env) :: starEach es X.env := by rfl) (hpl : (backTo pos (starEach es X.env)).any (·.1) = false := by rfl) :
    PE X (.Call (.Name x q) (e :: es) [] pos) (tCallN (sp X.A) t) := by
  obtain ⟨f, fd, F, hm, hk, hb⟩ := c
  exact pe_callN F hr hg hm hk hb ha hdb he hpl
section
variable {k : Nat} {f : Addr} {fd : FuncData} {e ea eb : Expr} {te ta tb : TE} {p pos : Pos}
/-- what an error keeps, as data -/
structure Kp (K : PySem.W.Frag) (H : Hp) (v : V) (ds : List PyData) : Prop where
  ex : ∃ (k : Nat) (a : Addr) (xs : List V), k < 42 ∧ v = .ref a ∧ xs.length = (fsE k).length ∧ ErrF H a (ad K k) ((fsE k).zip xs).reverse ∧ DqAll K H xs ds
theorem pe_kept {Pre : St → Hp → Prop} {ds : List PyData} (F : Cal X.prog X.w X.K X.mg X.base "_law_kept" k ["e"] (spKept X.K)) (hr : RoomH k X.A) (hg : Gl X "_law_kept")
    (he : PE X e te) (hte : ∀ σ H (Q : VK), Pre σ H → (∀ v, Kp X.K H v ds → Q v H) → te σ H Q) (se : starEach [e] X.env = (false, eval e X.env) :: starEach [] X.env := by rfl) :
    PE X (.Call (.Name "_law_kept" p) [e] [] pos) (tEl Pre (RQ X.K) (.list ds)) :=
  pe_imp (pe_cal F hr hg (pa_cons he pa_nil se) (by decide) se) fun σ H Q q => hte _ _ _ q.1 fun v kp => by
    obtain ⟨k, a, xs, hk, ev, hl, hE, hD⟩ := kp.ex
    subst ev
    exact ⟨k, a, xs, hk, rfl, hl, hE, fun l hl1 => q.2 _ _ (same_upd hl1) (.lst (.inl (.inl upd_same)) (DqAll.same (same_upd hl1) hD))⟩
/-- what an error must be for its spot -/
def tIsC (K : PySem.W.Frag) (A : Around) (ta tb : TE) : TT := fun σ H Q => ta σ H fun x H1 => tb σ H1 fun y H2 => spIs K A [x, y] H2 (fun v H' => ∃ c, v = .bl c ∧ Q c H') E0
theorem is_ok {K : PySem.W.Frag} {A : Around} {a : Addr} {k : Nat} {fs : List (Str × V)} {H : Hp} {Q : Bool → Hp → Prop} (hk : k < 45) (hE : ErrF H a (ad K k) fs) (hq : Quiet A H) (q : ∀ H', Same H H' → Q true H') :
    spIs K A [.ref a, .int (k : Nat)] H (fun v H' => ∃ c, v = .bl c ∧ Q c H') E0 := ⟨k, a, fs, hk, rfl, hE, hq, fun H' s => ⟨true, rfl, q H' s⟩⟩
theorem pt_isF (F : Cal X.prog X.w X.K X.mg X.base "_law_is" k ["e", "spot"] (spIs X.K)) (hr : RoomH k X.A) (hg : Gl X "_law_is")
    (ha : PE X ea ta) (hbb : PE X eb tb) (s1 : starEach [ea, eb] X.env = (false, eval ea X.env) :: starEach [eb] X.env := by rfl) (s2 : starEach [eb] X.env = (false, eval eb X.env) :: starEach [] X.env := by rfl)
    (hv : ∀ whole, isTrue (.Call (.Name "_law_is" p) [ea, eb] [] pos) X.env whole = (do let v ← whole; standAt (Expr.Call (.Name "_law_is" p) [ea, eb] [] pos).pos; holding [v] (truthy v)) := by intro _; rfl)
    (hpl : (backTo pos (starEach [eb] X.env)).any (·.1) = false := by rfl) : PT X (.Call (.Name "_law_is" p) [ea, eb] [] pos) (tIsC X.K X.A ta tb) :=
  ⟨fun pins s σ H Q I q => (pt_val (pe_cal F hr hg (pa_cons ha (pa_cons hbb pa_nil s2) s1) (by decide) s1 hpl) hv).run pins s σ H Q I q⟩
end
end
end EPL
-- part KB12
set_option maxHeartbeats 4000000
/-! B12: _law_all_right. -/
namespace EPL
open PySem PySem.Spec PyProof.Rows L2 L2H
section
variable {P : Program} {w : World} {K : PySem.W.Frag} {mg : Str → Option Value} {base : Heap}
/-- a box for which all is right; it is five draws further -/
def spAllR (K : PySem.W.Frag) (A : Around) : Sp := fun vs H Q _ => A.handled = none ∧ A.guards = some [] ∧ ∃ (b : Addr) (g : Bool) (x2 : Int) (m : Nat), vs = [.ref b] ∧ BoxAt H b g x2 m ∧ m < 800 ∧
  ∀ H', Same (del H b) (del H' b) → BoxAt H' b g x2 (m + 5) → Q (.bl true) H'
theorem sc_all : FnScope ["box", "things", "turn", "first", "lists", "spot", "e", "due", "several"] ["box"] (defScope (top 81)) := ⟨rfl, rfl, rfl, by decide +kernel, rfl, by decide +kernel, by decide +kernel⟩
theorem blk_all : BlkOk ["box", "things", "turn", "first", "lists", "spot", "e", "due", "several"] (defScope (top 81)) { kind := .function, names := [(".0", .local), ("e", .local), ("_law_kept", .globalImplicit)], isGenerator := false, isCoroutine := false } [("e", 6)] :=
  ⟨rfl, by decide +kernel, by decide +kernel, by decide +kernel, by decide +kernel⟩
def cntL : List Nat := [2, 2, 3, 3, 4, 5]
/-- an error of the first kind in turn -/
structure Z1 where
  v : V
  d : PyData
  j : Nat
  a : Addr
  hd : Okn 100 4 d
  hj : j < 36
def Pre1 (K : PySem.W.Frag) (z : Z1) (σ : St) (H : Hp) : Prop := σ[6]? = some (some (.ref z.a)) ∧ σ[3]? = some (some z.v) ∧ ErrF H z.a (ad K z.j) ((fsE z.j).zip [z.v]).reverse ∧ Dq K H z.v z.d
theorem lay1 (z : Z1) : Lay (Pre1 K z) := fun σ H H' s h => ⟨h.1, h.2.1, h.2.2.1.same s, h.2.2.2.same s⟩
theorem fsE_one : ∀ k, k < 36 → (fsE k).length = 1 := by decide +kernel
/-- an error of the second kind -/
structure Z2 where
  xs : List V
  ds : List PyData
  j : Nat
  a : Addr
  ws : List V
  du : Addr
  sv : Addr
  hd : ∀ d ∈ ds, Okn 100 4 d
  hl : xs.length = 5
  hj : j < 6
def Pre2 (K : PySem.W.Frag) (z : Z2) (σ : St) (H : Hp) : Prop := σ[8]? = some (some (.ref z.sv)) ∧ σ[7]? = some (some (.ref z.du)) ∧ σ[5]? = some (some (.int (z.j : Nat))) ∧ H z.sv = some (.lst z.ws) ∧ H z.du = some (.lst z.xs) ∧ z.ws[z.j]? = some (.ref z.a) ∧
  ErrF H z.a (ad K (36 + z.j)) ((fsE (36 + z.j)).zip (z.xs.take (cntL.getD z.j 0))).reverse ∧ DqAll K H z.xs z.ds
theorem lay2 (z : Z2) : Lay (Pre2 K z) := fun σ H H' s h => ⟨h.1, h.2.1, h.2.2.1, s _ _ h.2.2.2.1, s _ _ h.2.2.2.2.1, h.2.2.2.2.2.1, h.2.2.2.2.2.2.1.same s, DqAll.same s h.2.2.2.2.2.2.2⟩
theorem fsE_many : ∀ j, j < 6 → (fsE (36 + j)).length = cntL.getD j 0 := by decide +kernel
/-- the second list at the turn's end -/
structure Z3 where
  v : V
  d : PyData
  ll : Addr
  l0 : Addr
  l1 : Addr
  ws : List V
  hd : Okn 100 4 d
def Pre3 (K : PySem.W.Frag) (z : Z3) (σ : St) (H : Hp) : Prop := σ.length = 9 ∧ σ[4]? = some (some (.ref z.ll)) ∧ σ[3]? = some (some z.v) ∧ H z.ll = some (.lst [.ref z.l0, .ref z.l1]) ∧ H z.l1 = some (.lst z.ws) ∧ A2 (RE K H) (items36 z.v) z.ws ∧ Dq K H z.v z.d
theorem a2_re {H H' : Hp} {is : List (Nat × List V)} {ws : List V} (s : Same H H') (h : A2 (RE K H) is ws) : A2 (RE K H') is ws := h.imp fun i v => re_grows _ _ _ _ s
theorem lay3 (z : Z3) : Lay (Pre3 K z) := fun σ H H' s h => ⟨h.1, h.2.1, h.2.2.1, s _ _ h.2.2.2.1, s _ _ h.2.2.2.2.1, a2_re s h.2.2.2.2.2.1, h.2.2.2.2.2.2.same s⟩
theorem cnt_le (j : Nat) : cntL.getD j 0 ≤ 5 := by
  by_cases h : j < 6
  · have : ∀ j, j < 6 → cntL.getD j 0 ≤ 5 := by decide
    exact this j h
  · rw [List.getD_eq_getElem?_getD, List.getElem?_eq_none (by show 6 ≤ j; omega)]
    exact Nat.zero_le _
theorem cnt_at {j : Nat} (h : j < 6) : ([V.int 2, V.int 2, V.int 3, V.int 3, V.int 4, V.int 5] : List V)[j]? = some (.int (cntL.getD j 0 : Nat)) := by
  match j, h with
  | 0, _ => rfl
  | 1, _ => rfl
  | 2, _ => rfl
  | 3, _ => rfl
  | 4, _ => rfl
  | 5, _ => rfl
theorem dq_take {H : Hp} {n : Nat} : ∀ {xs : List V} {ds : List PyData}, DqAll K H xs ds → DqAll K H (xs.take n) (ds.take n) := by
  induction n with
  | zero =>
    intro xs ds _
    rw [List.take_zero, List.take_zero]
    exact .nil
  | succ n ih =>
    intro xs ds h
    cases h with
    | nil => exact .nil
    | cons a b => exact .cons a (ih b)
theorem dq_drop {H : Hp} {n : Nat} : ∀ {xs : List V} {ds : List PyData}, DqAll K H xs ds → DqAll K H (xs.drop n) (ds.drop n) := by
  induction n with
  | zero =>
    intro xs ds h
    exact h
  | succ n ih =>
    intro xs ds h
    cases h with
    | nil => exact .nil
    | cons a b => exact ih b
theorem dq_rep {H : Hp} {v : V} {d : PyData} (h : Dq K H v d) : DqAll K H (List.replicate (36 : Int).toNat [v]).flatten (List.replicate 36 d) := by
  have all : ∀ n : Nat, DqAll K H (List.replicate n [v]).flatten (List.replicate n d) := fun n => by
    induction n with
    | zero => exact .nil
    | succ n ih =>
      rw [List.replicate_succ, List.replicate_succ, List.flatten_cons]
      exact .cons h ih
  exact all 36
theorem cut_nat {xs : List V} {n : Nat} (h : n ≤ xs.length) : cutV xs none (some (n : Int)) = xs.take n := by
  unfold cutV
  have e1 : HT.sIx xs.length 0 none = 0 := rfl
  rw [e1, HT.sIx_nat, List.drop_zero, Nat.sub_zero, Nat.min_eq_left h]
theorem cut_from {xs : List V} {n : Nat} (h : n ≤ xs.length) : cutV xs (some (n : Int)) none = xs.drop n := by
  unfold cutV
  have e1 : HT.sIx xs.length xs.length none = xs.length := rfl
  rw [e1, HT.sIx_nat, Nat.min_eq_left h]
  exact List.take_of_length_le (by rw [List.length_drop]; exact Nat.le_refl _)
theorem dq_get {H : Hp} {n : Nat} : ∀ {xs : List V} {ds : List PyData}, DqAll K H xs ds → n < xs.length → ∃ v d, xs[n]? = some v ∧ ds[n]? = some d ∧ Dq K H v d := by
  induction n with
  | zero =>
    intro xs ds h hn
    cases h with
    | nil => exact absurd hn (by simp)
    | cons a b => exact ⟨_, _, rfl, rfl, a⟩
  | succ n ih =>
    intro xs ds h hn
    cases h with
    | nil => exact absurd hn (by simp)
    | cons a b => exact ih b (Nat.lt_of_succ_lt_succ hn)
theorem it_at {w0 w1 w2 w3 w4 : V} {j : Nat} (h : j < 6) : (items6 w0 w1 w2 w3 w4)[j]? = some (36 + j, [w0, w1, w2, w3, w4].take (cntL.getD j 0)) := by
  match j, h with
  | 0, _ => rfl
  | 1, _ => rfl
  | 2, _ => rfl
  | 3, _ => rfl
  | 4, _ => rfl
  | 5, _ => rfl
theorem ok_all {f : Addr} {fd : FuncData} (W : Ev K mg) (F : FnT K "_law_all_right" 81 f fd)
    (cTh : Cal P w K mg base "_law_thing" 2 ["box"] (spThing K)) (cPl : Cal P w K mg base "_law_by_place" 3 ["thing"] (spAll36 K)) (cNa : Cal P w K mg base "_law_by_name" 3 ["thing"] (spAll36 K))
    (cSe : Cal P w K mg base "_law_several" 3 ["one", "two", "three", "four", "five", "way"] (spSev K)) (cIs : Cal P w K mg base "_law_is" 2 ["e", "spot"] (spIs K)) (cKe : Cal P w K mg base "_law_kept" 1 ["e"] (spKept K))
    (hmr : mg "range" = none) (hmp : mg "repr" = none) : FnN P w K mg base 4 f fd ["box"] (spAllR K) := by
  refine fn_calm F sc_all (fun A vs H Q E h => ?_) (fun A vs H Q E h => h.1) (fun cdv A outer s H vs Q E hr h => ?_)
  · obtain ⟨_, _, b, g, x2, m, rfl, _⟩ := h
    rfl
  · obtain ⟨hA, hG, b, g, x2, m, rfl, hb, hm, q⟩ := h
    have nd := sc_all.nd
    have h3 : RoomH 3 (A.deeper (envOfC "_law_all_right" (defScope (top 81)) s.heap.objs.size f cdv)) := ⟨hr.dp, hr.un⟩
    have h2 := h3.mono (show 2 ≤ 3 by decide)
    have h1 := h3.mono (show 1 ≤ 3 by decide)
    have hu : (A.deeper (envOfC "_law_all_right" (defScope (top 81)) s.heap.objs.size f cdv)).units + 64 < cLine := by
      have := h3.un
      omega
    refine ⟨_, pss_cons (ps_set (i := 1) nd rfl (by first | exact Or.inl rfl | exact Or.inr rfl) (pe_lst (pa_cons (pe_cal cTh h2 rfl (pa_cons (pv 0) pa_nil)) (pa_cons (pe_cal cTh h2 rfl (pa_cons (pv 0) pa_nil)) (pa_cons (pe_cal cTh h2 rfl (pa_cons (pv 0) pa_nil))
        (pa_cons (pe_cal cTh h2 rfl (pa_cons (pv 0) pa_nil)) (pa_cons (pe_cal cTh h2 rfl (pa_cons (pv 0) pa_nil)) pa_nil)))))))
      (pss_cons (ps_for PassesOwn.never rfl (pi_range1 rfl hmr (pa_cons pe_int pa_nil)) (pg_name (i := 2) nd rfl (by first | exact Or.inl rfl | exact Or.inr rfl))
        (pss_cons (ps_set (i := 3) nd rfl (by first | exact Or.inl rfl | exact Or.inr rfl) (pe_ix (r := rIxL K) ix_list (pv 1) (pv 2) fun _ _ => rfl))
        (pss_cons (ps_set (i := 4) nd rfl (by first | exact Or.inl rfl | exact Or.inr rfl) (pe_lst (pa_cons (pe_cal cPl h3 rfl (pa_cons (pv 3) pa_nil)) (pa_cons (pe_cal cNa h3 rfl (pa_cons (pv 3) pa_nil)) pa_nil))))
        (pss_cons (ps_for PassesOwn.never rfl (pi_range1 rfl hmr (pa_cons pe_int pa_nil)) (pg_name (i := 5) nd rfl (by first | exact Or.inl rfl | exact Or.inr rfl))
          (pss_cons (ps_set (i := 6) nd rfl (by first | exact Or.inl rfl | exact Or.inr rfl) (pe_ix (r := rIxL K) ix_list (pe_ix (r := rIxL K) ix_list (pv 4) (pe_op op_fdiv (pv 2) pe_int) fun _ _ => rfl) (pv 5) fun _ _ => rfl))
          (pss_one (ps_if (PW.pt (pw_or (pt_not (pt_isF cIs h2 rfl (pv 6) (pv 5))) (pw_or1 (pt_ex fun z : Z1 => pt_reprNe (d := .list [z.d]) (Pre := Pre1 K z) W.sys hG hu (lay1 z) rfl hmp ?_ (pe_kept cKe h1 rfl (pv 6) ?_) (pe_lstD ?_ (els_cons (j := 1) ?_ rq_grows (pe_varD (i := 3) (d := z.d) (pv 3) ?_) els_nil))))))
            (pss_one (ps_ret pe_bl)) pss_nil))))
        (pss_cons (ps_set (i := 7) nd rfl (by first | exact Or.inl rfl | exact Or.inr rfl) (pe_op op_cat (pe_slice sl_list (pv 1) (po_some (pv 2)) po_none) (pe_slice sl_list (pv 1) po_none (po_some (pv 2)))))
        (pss_cons (ps_set (i := 8) nd rfl (by first | exact Or.inl rfl | exact Or.inr rfl) (pe_cal cSe h3 rfl (pa_cons (pe_ix (r := rIxL K) ix_list (pv 7) pe_int fun _ _ => rfl) (pa_cons (pe_ix (r := rIxL K) ix_list (pv 7) pe_int fun _ _ => rfl) (pa_cons (pe_ix (r := rIxL K) ix_list (pv 7) pe_int fun _ _ => rfl)
          (pa_cons (pe_ix (r := rIxL K) ix_list (pv 7) pe_int fun _ _ => rfl) (pa_cons (pe_ix (r := rIxL K) ix_list (pv 7) pe_int fun _ _ => rfl) (pa_cons (pv 2) pa_nil))))))))
        (pss_cons (ps_for PassesOwn.never rfl (pi_range1 rfl hmr (pa_cons pe_int pa_nil)) (pg_name (i := 5) nd rfl (by first | exact Or.inl rfl | exact Or.inr rfl))
          (pss_cons (ps_if (pt_not (pt_isF cIs h2 rfl (pe_ix (r := rIxL K) ix_list (pv 8) (pv 5) fun _ _ => rfl) (pe_op op_add pe_int (pv 5)))) (pss_one (ps_ret pe_bl)) pss_nil)
          (pss_one (ps_if (pt_ex fun z : Z2 => pt_reprNe (d := .list (z.ds.take (cntL.getD z.j 0))) (Pre := Pre2 K z) W.sys hG hu (lay2 z) rfl hmp ?_ (pe_kept cKe h1 rfl (pe_ix (r := rIxL K) ix_list (pv 8) (pv 5) fun _ _ => rfl) ?_)
              (pe_imp (t' := tEl (Pre2 K z) (RQ K) (.list (z.ds.take (cntL.getD z.j 0)))) (pe_slice sl_list (pv 7) po_none (po_some (pe_ix (r := rIxL K) ix_list (pe_lst (pa_cons pe_int (pa_cons pe_int (pa_cons pe_int (pa_cons pe_int (pa_cons pe_int (pa_cons pe_int pa_nil))))))) (pv 5) fun _ _ => rfl))) ?_))
            (pss_one (ps_ret pe_bl)) pss_nil))))
        (pss_one (ps_if (pt_ex fun z : Z3 => pt_reprNe (d := .list (List.replicate 36 (.list [z.d]))) (Pre := Pre3 K z) W.sys hG hu (lay3 z) rfl hmp ?_
            (pe_imp (t' := tEl (Pre3 K z) (RQ K) (.list (List.replicate 36 (.list [z.d])))) (pe_lc rfl nd (pi_list (pe_ix (r := rIxL K) ix_list (pv 4) pe_int fun _ _ => rfl)) blk_all
              (fun _ _ _ _ _ => pg_name (i := 6) nd rfl (by first | exact Or.inl rfl | exact Or.inr rfl)) (fun _ _ _ _ _ => pts_nil) (te := tCallN (spKept K (A.deeper (envOfC "_law_all_right" (defScope (top 81)) s.heap.objs.size f cdv))) (tCons (tVar 6) tNil)) (fun _ _ _ _ _ => pe_cal cKe h1 rfl (pa_cons (pv 6) pa_nil))) ?_)
            (pe_imp (t' := tEl (Pre3 K z) (RQ K) (.list (List.replicate 36 (.list [z.d])))) (pe_op op_rep (pe_lst (pa_cons (pe_lst (pa_cons (pv 3) pa_nil)) pa_nil)) pe_int) ?_))
          (pss_one (ps_ret pe_bl)) pss_nil)))))))))
      (pss_one (ps_ret pe_bl))), ?_⟩
    · exact (okn_list (ds := [z.d]) (k := 1) (by intro d hd; rw [List.mem_singleton.mp hd]; exact z.hd) (Nat.le_refl 1)).mono (by decide) (by decide)
    · intro σ H Q p q
      exact ⟨_, p.1, q _ ⟨z.j, z.a, [z.v], Nat.lt_of_lt_of_le z.hj (by decide), rfl, (fsE_one z.j z.hj).symm, p.2.2.1, .cons p.2.2.2 .nil⟩⟩
    · exact Nat.le_of_ble_eq_true rfl
    · exact ⟨fun σ H H' s h => lay1 z σ H H' s h, fun σ H v h => ⟨by rw [List.getElem?_set_ne (by decide)]; exact h.1, by rw [List.getElem?_set_ne (by decide)]; exact h.2.1, h.2.2⟩⟩
    · exact fun σ H p => ⟨_, p.2.1, p.2.2.2⟩
    · exact (okn_list (k := 5) (fun d hd => z.hd d (List.mem_of_mem_take hd)) (Nat.le_trans (List.length_take_le _ _) (cnt_le z.j))).mono (by decide) (by decide)
    · intro σ H Q p q
      refine ⟨_, p.1, _, p.2.2.1, z.sv, z.ws, _, _, rfl, rfl, .inl (.inl p.2.2.2.1), atI_nat p.2.2.2.2.2.1, q _ ⟨36 + z.j, z.a, z.xs.take (cntL.getD z.j 0), by have := z.hj; omega, rfl, ?_, p.2.2.2.2.2.2.1, dq_take p.2.2.2.2.2.2.2⟩⟩
      rw [fsE_many z.j z.hj, List.length_take, z.hl, Nat.min_eq_left (cnt_le z.j)]
    · intro σ H Q h
      obtain ⟨p, q⟩ := h
      refine ⟨_, p.2.1, small (by decide), fun p1 n1 => ⟨_, p.2.2.1, p1, _, _, .int (cntL.getD z.j 0 : Nat), rfl, rfl, .inl (.inl upd_same), atI_nat (cnt_at z.hj), _, rfl, z.du, z.xs, rfl, .inl (.inl (same_upd n1 _ _ p.2.2.2.2.1)), fun p2 n2 => ?_⟩⟩
      refine q _ _ ((same_upd n1).trans (same_upd n2)) ?_
      rw [cut_nat (by rw [z.hl]; exact cnt_le z.j)]
      exact .lst (.inl (.inl upd_same)) (DqAll.same ((same_upd n1).trans (same_upd n2)) (dq_take p.2.2.2.2.2.2.2))
    · have h1 : Okn 104 5 (.list [z.d]) := (okn_list (ds := [z.d]) (k := 1) (by intro d hd; rw [List.mem_singleton.mp hd]; exact z.hd) (Nat.le_refl 1)).mono (by decide) (by decide)
      exact (okn_list (k := 36) (n := 104) (m := 5) (by intro d hd; rw [List.eq_of_mem_replicate hd]; exact h1) (by rw [List.length_replicate]; exact Nat.le_refl _)).mono (by decide) (by decide)
    · intro σ H Q h
      obtain ⟨p, q⟩ := h
      have hl : z.ws.length = 36 := p.2.2.2.2.2.1.length.symm.trans (by unfold items36; rw [List.length_map, List.length_range])
      refine ⟨_, p.2.1, z.ll, _, _, .ref z.l1, rfl, rfl, .inl (.inl p.2.2.2.1), atI_nat (j := 1) rfl, z.l1, rfl, ⟨z.ws, .inl (.inl p.2.2.2.2.1)⟩, fun D nD => ?_⟩
      have into : ∀ {H2 : Hp}, Same H H2 → Same H (del H2 D) := fun {H2} s1 a o z1 => by
        rw [del_other (ne_of_none z1 nD)]
        exact s1 _ _ z1
      refine lc_list (xs := z.ws) (fun i H2 => ∃ acc, H2 D = some (.lst acc) ∧ acc.length = i ∧ Same H (del H2 D) ∧ DqAll K (del H2 D) acc (List.replicate i (.list [z.d]))) ⟨[], upd_same, rfl, into (same_upd nD), .nil⟩
        (fun i H2 _ ⟨acc, _, _, s2, _⟩ => .inl (.inl (del_sub _ _ (s2 _ _ p.2.2.2.2.1)))) (fun i x H2 hx hP => ?_) (fun H2 hP => ?_)
      · obtain ⟨acc, eD, el, s2, hq⟩ := hP
        have hi : i < 36 := hl ▸ (List.getElem?_eq_some_iff.mp hx).1
        obtain ⟨x', hx', a, ea, hE⟩ := p.2.2.2.2.2.1.get (n := i) (i := (i, [z.v])) (by unfold items36; rw [List.getElem?_map, List.getElem?_range hi]; rfl)
        obtain rfl : x = x' := Option.some.inj (hx.symm.trans hx')
        subst ea
        have h6 : 6 < (σ.set 6 none).length := by
          rw [List.length_set, p.1]
          decide
        refine ⟨?_, ?_⟩
        · show ((σ.set 6 none).set 6 (some (V.ref a))).set 6 none = σ.set 6 none
          rw [List.set_set, List.set_set]
        · refine ⟨.ref a, ?_, i, a, [z.v], (by omega), rfl, (fsE_one i hi).symm, (hE.f.same s2).same del_sub, fun l nl => ?_⟩
          · show ((σ.set 6 none).set 6 (some (V.ref a)))[6]? = some (some (V.ref a))
            rw [List.getElem?_set_self h6]
          · have neD : D ≠ l := ne_of_none eD nl
            refine ⟨acc, (by rw [upd_ne neD]; exact eD), small1000 (by omega), acc ++ [.ref l], upd_same, (by rw [List.length_append, el]; rfl), ?_, ?_⟩
            · rw [del_upd]
              exact s2.trans (del_grow (same_upd nl))
            · rw [del_upd, List.replicate_succ']
              refine dqall_append (DqAll.same (del_grow (same_upd nl)) hq) (.cons (.lst (xs := [z.v]) (.inl (.inl ?_)) (.cons ?_ .nil)) .nil)
              · rw [del_other neD.symm]
                exact upd_same
              · exact (p.2.2.2.2.2.2.same s2).same (del_grow (same_upd nl))
      · obtain ⟨acc, eD, el, s2, hq⟩ := hP
        rw [hl] at hq
        exact q _ H2 (s2.trans del_sub) (.lst (.inl (.inl eD)) (DqAll.same del_sub hq))
    · intro σ H Q h
      obtain ⟨p, q⟩ := h
      refine ⟨_, p.2.2.1, small (Nat.le_of_ble_eq_true rfl), fun p1 n1 => ⟨small (Nat.le_of_ble_eq_true rfl), fun p2 n2 => ?_⟩⟩
      have s1 : Same H (upd H p1 (.lst [z.v])) := same_upd n1
      have s2 : Same (upd H p1 (.lst [z.v])) (upd (upd H p1 (.lst [z.v])) p2 (.lst [.ref p1])) := same_upd n2
      refine ⟨p2, 36, [.ref p1], rfl, rfl, upd_same, by decide, by decide, (show 1 * 36 ≤ sizeLine from small (by decide)), fun p3 n3 => ?_⟩
      have s3 : Same (upd (upd H p1 (.lst [z.v])) p2 (.lst [.ref p1])) _ := same_upd (o := .lst (List.replicate (36 : Int).toNat [V.ref p1]).flatten) n3
      refine q _ _ ((s1.trans s2).trans s3) (.lst (.inl (.inl upd_same)) ?_)
      have one : Dq K (upd (upd (upd H p1 (.lst [z.v])) p2 (.lst [.ref p1])) p3 (.lst (List.replicate (36 : Int).toNat [V.ref p1]).flatten)) (.ref p1) (.list [z.d]) :=
        .lst (.inl (.inl (s3 _ _ (s2 _ _ upd_same)))) (.cons (p.2.2.2.2.2.2.same ((s1.trans s2).trans s3)) .nil)
      exact dq_rep one
    · -- five things
      refine ⟨.ref b, rfl, hA, b, g, x2, m, rfl, hb, (by omega), fun v1 d1 H1 m1 s1 b1 q1 => ?_⟩
      refine ⟨.ref b, rfl, hA, b, g, x2, m + 1, rfl, b1, (by omega), fun v2 d2 H2 m2 s2 b2 q2 => ?_⟩
      refine ⟨.ref b, rfl, hA, b, g, x2, m + 2, rfl, b2, (by omega), fun v3 d3 H3 m3 s3 b3 q3 => ?_⟩
      refine ⟨.ref b, rfl, hA, b, g, x2, m + 3, rfl, b3, (by omega), fun v4 d4 H4 m4 s4 b4 q4 => ?_⟩
      refine ⟨.ref b, rfl, hA, b, g, x2, m + 4, rfl, b4, (by omega), fun v5 d5 H5 m5 s5 b5 q5 => ?_⟩
      refine ⟨small (Nat.le_of_ble_eq_true rfl), fun tl ntl => ?_⟩
      have su : Same H5 (upd H5 tl (.lst [v1, v2, v3, v4, v5])) := same_upd ntl
      have htl : upd H5 tl (.lst [v1, v2, v3, v4, v5]) tl = some (.lst [v1, v2, v3, v4, v5]) := upd_same
      have hD : DqAll K (upd H5 tl (.lst [v1, v2, v3, v4, v5])) [v1, v2, v3, v4, v5] [d1, d2, d3, d4, d5] :=
        .cons (((((q1.same s2).same s3).same s4).same s5).same (del_sub.trans su)) (.cons ((((q2.same s3).same s4).same s5).same (del_sub.trans su)) (.cons (((q3.same s4).same s5).same (del_sub.trans su))
          (.cons ((q4.same s5).same (del_sub.trans su)) (.cons (q5.same (del_sub.trans su)) .nil))))
      have hok : ∀ d ∈ [d1, d2, d3, d4, d5], Okn 100 4 d := fun d hd => okn_menu d (by
        simp only [List.mem_cons, List.not_mem_nil, or_false] at hd
        rcases hd with rfl | rfl | rfl | rfl | rfl <;> assumption)
      have fin : ∀ H', Same (upd H5 tl (.lst [v1, v2, v3, v4, v5])) H' → Q (.bl true) H' := fun H' s' =>
        q H' (((((s1.trans s2).trans s3).trans s4).trans s5).trans (del_grow (su.trans s'))) ((b5.same su).same s')
      have hlen : [v1, v2, v3, v4, v5].length = 5 := rfl
      have hlen2 : [d1, d2, d3, d4, d5].length = 5 := rfl
      show tSeq _ _ _ [some (.ref b), some (.ref tl), none, none, none, none, none, none, none] _
      generalize upd H5 tl (.lst [v1, v2, v3, v4, v5]) = H6 at htl hD fin ⊢
      generalize [v1, v2, v3, v4, v5] = vs at htl hD hlen
      generalize [d1, d2, d3, d4, d5] = ds at hD hok hlen2
      -- the turns
      refine ⟨4, rfl, by decide, by decide, for_range (lo := 0) (n := (4 : Int).toNat) (fun i σ H' => (∃ o2 o3 o4 o5 o6 o7 o8, σ = [some (.ref b), some (.ref tl), o2, o3, o4, o5, o6, o7, o8]) ∧ Same H6 H') ⟨⟨_, _, _, _, _, _, _, rfl⟩, Same.refl _⟩ (fun i σ H' hi hP => ?_) fun σ H' hP => fin H' hP.2⟩
      obtain ⟨⟨o2, o3, o4, o5, o6, o7, o8, rfl⟩, sP⟩ := hP
      have hi : i < 4 := hi
      rw [Int.zero_add]
      obtain ⟨v, d, hv, hd, hvd⟩ := dq_get hD (show i < vs.length by omega)
      have okd : Okn 100 4 d := hok d (List.mem_of_getElem? hd)
      refine ⟨.ref tl, rfl, .int (i : Nat), rfl, tl, vs, (i : Nat), v, rfl, rfl, .inl (.inl (sP _ _ htl)), atI_nat hv, ?_⟩
      refine ⟨v, rfl, hA, v, rfl, fun l0 H7 ws0 s7 n0 e0 a0 => ⟨v, rfl, hA, v, rfl, fun l1 H8 ws1 s8 n1 e1 a1 => ⟨small (Nat.le_of_ble_eq_true rfl), fun ll nll => ?_⟩⟩⟩
      have s9 : Same H8 (upd H8 ll (.lst [.ref l0, .ref l1])) := same_upd nll
      have hll : upd H8 ll (.lst [.ref l0, .ref l1]) ll = some (.lst [.ref l0, .ref l1]) := upd_same
      have S9 := ((sP.trans s7).trans s8).trans s9
      have E0' := s9 _ _ (s8 _ _ e0)
      have E1' := s9 _ _ e1
      have A0' := a2_re (s8.trans s9) a0
      have A1' := a2_re s9 a1
      show tSeq _ _ _ [some (.ref b), some (.ref tl), some (.int (i : Nat)), some v, some (.ref ll), o5, o6, o7, o8] _
      generalize upd H8 ll (.lst [.ref l0, .ref l1]) = H9 at hll S9 E0' E1' A0' A1' ⊢
      have hD9 := DqAll.same S9 hD
      have hvd9 := hvd.same S9
      refine ⟨36, rfl, by decide, by decide, for_range (lo := 0) (n := (36 : Int).toNat) (fun j σ H' => (∃ o5 o6, σ = [some (.ref b), some (.ref tl), some (.int (i : Nat)), some v, some (.ref ll), o5, o6, o7, o8]) ∧ Same H9 H') ⟨⟨_, _, rfl⟩, Same.refl _⟩ (fun j σ H' hj hP => ?_) fun σ H' hP => ?_⟩
      · -- one error
        obtain ⟨⟨o5, o6, rfl⟩, sJ⟩ := hP
        have hj : j < 36 := hj
        rw [Int.zero_add]
        obtain ⟨lk, wsk, hk, ek, ak⟩ : ∃ lk wsk, ([V.ref l0, V.ref l1] : List V)[i / 2]? = some (.ref lk) ∧ H9 lk = some (.lst wsk) ∧ A2 (RE K H9) (items36 v) wsk := by
          by_cases h : i < 2
          · refine ⟨l0, ws0, ?_, E0', A0'⟩
            rw [show i / 2 = 0 by omega]
            rfl
          · refine ⟨l1, ws1, ?_, E1', A1'⟩
            rw [show i / 2 = 1 by omega]
            rfl
        obtain ⟨x, hx, a, ea, hE⟩ := ak.get (n := j) (i := (j, [v])) (by unfold items36; rw [List.getElem?_map, List.getElem?_range hj]; rfl)
        subst ea
        have e2 : ((i : Nat) : Int) / 2 = ((i / 2 : Nat) : Int) := by omega
        refine ⟨.ref ll, rfl, .int (i : Nat), rfl, _, _, rfl, rfl, ⟨by decide, by decide⟩, ll, _, _, .ref lk, rfl, rfl, .inl (.inl (sJ _ _ hll)), (show atI _ (((i : Nat) : Int) / 2) = _ by rw [e2]; exact atI_nat hk), ?_⟩
        refine ⟨.int (j : Nat), rfl, lk, wsk, _, .ref a, rfl, rfl, .inl (.inl (sJ _ _ ek)), atI_nat hx, ?_⟩
        refine ⟨.ref a, rfl, .int (j : Nat), rfl, is_ok (by omega) ((hE.f).same sJ) (.inl hA) fun H2 s2 => iteF ⟨⟨v, d, j, a, okd, hj⟩, ⟨rfl, rfl, ((hE.f).same sJ).same s2, (hvd9.same sJ).same s2⟩, fun H3 s3 => iteF ⟨⟨_, _, rfl⟩, (sJ.trans s2).trans s3⟩⟩⟩
      · -- several
        obtain ⟨⟨o5, o6, rfl⟩, sJ⟩ := hP
        have hil : i ≤ vs.length := by omega
        refine ⟨.ref tl, rfl, .int (i : Nat), rfl, _, rfl, tl, vs, rfl, .inl (.inl (sJ _ _ (S9 _ _ htl))), fun p1 np1 => ?_⟩
        refine ⟨.ref tl, rfl, .int (i : Nat), rfl, _, rfl, tl, vs, rfl, .inl (.inl (same_upd np1 _ _ (sJ _ _ (S9 _ _ htl)))), fun p2 np2 => ?_⟩
        refine ⟨p1, p2, _, _, rfl, rfl, same_upd np2 _ _ upd_same, upd_same, ?_, fun du ndu => ?_⟩
        · have c1 := cutV_length vs (some (i : Nat)) none
          have c2 := cutV_length vs none (some (i : Nat))
          exact small (by omega)
        have sd := ((same_upd np1).trans (same_upd np2)).trans (same_upd (o := .lst (cutV vs (some (i : Nat)) none ++ cutV vs none (some (i : Nat)))) ndu)
        have hdu := upd_same (H := upd (upd H' p1 (.lst (cutV vs (some (i : Nat)) none))) p2 (.lst (cutV vs none (some (i : Nat))))) (a := du) (o := .lst (cutV vs (some (i : Nat)) none ++ cutV vs none (some (i : Nat))))
        rw [cut_from hil, cut_nat hil] at hdu sd ⊢
        have SJ : Same H9 _ := sJ.trans sd
        have hdd : DqAll K H9 (vs.drop i ++ vs.take i) (ds.drop i ++ ds.take i) := dqall_append (dq_drop hD9) (dq_take hD9)
        have hokd : ∀ d ∈ ds.drop i ++ ds.take i, Okn 100 4 d := fun d hd => (List.mem_append.mp hd).elim (fun z => hok d (List.mem_of_mem_drop z)) fun z => hok d (List.mem_of_mem_take z)
        have hl5 : (vs.drop i ++ vs.take i).length = 5 := by
          rw [List.length_append, List.length_drop, List.length_take, Nat.min_eq_left hil]
          omega
        show tSeq _ _ _ [some (.ref b), some (.ref tl), some (.int (i : Nat)), some v, some (.ref ll), o5, o6, some (.ref du), o8] _
        generalize upd (upd (upd H' p1 (.lst (vs.drop i))) p2 (.lst (vs.take i))) du (.lst (vs.drop i ++ vs.take i)) = H10 at hdu SJ ⊢
        generalize vs.drop i ++ vs.take i = us at hdu hdd hl5
        generalize ds.drop i ++ ds.take i = es at hdd hokd
        obtain ⟨w0, w1, w2, w3, w4, rfl⟩ : ∃ w0 w1 w2 w3 w4 : V, us = [w0, w1, w2, w3, w4] := by
          match us, hl5 with
          | [w0, w1, w2, w3, w4], _ => exact ⟨_, _, _, _, _, rfl⟩
        have hS : SqL K H10 du [w0, w1, w2, w3, w4] := .inl (.inl hdu)
        refine ⟨.ref du, rfl, du, _, _, w0, rfl, rfl, hS, rfl, .ref du, rfl, du, _, _, w1, rfl, rfl, hS, rfl, .ref du, rfl, du, _, _, w2, rfl, rfl, hS, rfl, .ref du, rfl, du, _, _, w3, rfl, rfl, hS, rfl, .ref du, rfl, du, _, _, w4, rfl, rfl, hS, rfl, .int (i : Nat), rfl,
          hA, w0, w1, w2, w3, w4, i, hi, rfl, fun sv H11 ws2 s11 n11 e11 a11 => ?_⟩
        have hdu11 := s11 _ _ hdu
        have hdd11 := DqAll.same (SJ.trans s11) hdd
        refine ⟨6, rfl, by decide, by decide, for_range (lo := 0) (n := (6 : Int).toNat) (fun j σ H' => (∃ o5 o6, σ = [some (.ref b), some (.ref tl), some (.int (i : Nat)), some v, some (.ref ll), o5, o6, some (.ref du), some (.ref sv)]) ∧ Same H11 H') ⟨⟨_, _, rfl⟩, Same.refl _⟩ (fun j σ H' hj hP => ?_) fun σ H' hP => ?_⟩
        · obtain ⟨⟨o5, o6, rfl⟩, sK⟩ := hP
          have hj : j < 6 := hj
          rw [Int.zero_add]
          obtain ⟨x, hx, a, ea, hE⟩ := a11.get (n := j) (i := (36 + j, [w0, w1, w2, w3, w4].take (cntL.getD j 0))) (it_at hj)
          subst ea
          have hE' := hE.f.same sK
          refine ⟨.ref sv, rfl, .int (j : Nat), rfl, sv, ws2, _, .ref a, rfl, rfl, .inl (.inl (sK _ _ e11)), atI_nat hx, .int (j : Nat), rfl, _, _, rfl, rfl, ?_⟩
          show spIs K _ [.ref a, .int ((36 + j : Nat) : Int)] H' _ E0
          refine is_ok (by omega) hE' (.inl hA) fun H2 s2 => iteF ?_
          refine ⟨⟨[w0, w1, w2, w3, w4], es, j, a, ws2, du, sv, hokd, rfl, hj⟩, ⟨rfl, rfl, rfl, s2 _ _ (sK _ _ e11), s2 _ _ (sK _ _ hdu11), hx, hE'.same s2, DqAll.same (sK.trans s2) hdd11⟩, fun H3 s3 => iteF ⟨⟨_, _, rfl⟩, (sK.trans s2).trans s3⟩⟩
        · obtain ⟨⟨o5, o6, rfl⟩, sK⟩ := hP
          have ST := (SJ.trans s11).trans sK
          refine ⟨⟨v, d, ll, l0, l1, ws1, okd⟩, ⟨rfl, rfl, rfl, ST _ _ hll, ST _ _ E1', a2_re ST A1', hvd9.same ST⟩, fun H3 s3 => iteF ⟨⟨_, _, _, _, _, _, _, rfl⟩, (S9.trans ST).trans s3⟩⟩
end
end EPL
-- part KB13
set_option maxHeartbeats 4000000
/-! B13: _law_raised. -/
namespace EPL
open PySem PySem.Spec PyProof.Rows L2 L2H
/-- the exception's dict d holds fs -/
def DiO (H : Hp) (d : Option Addr) (fs : List (Str × V)) : Prop := (fs = [] ∧ d = none) ∨ ∃ dx, d = some dx ∧ H dx = some (exd dx fs)
theorem same_delH {H H' : Hp} {a : Addr} (s : Same H H') (n : H a = none) : Same H (delH H' a) := fun b o z => by
  rw [delH_ne (ne_of_none z n)]
  exact s _ _ z
section
variable {X : Cx}
/-- raise C(..): the error that is made flies -/
theorem pmk_errN {e : Expr} {te : TE} (hx : X.ex = []) (he : PE X e te) :
    L2N.PMk X e (fun σ H Q => te σ H fun x H1 => ∃ a C fs, x = .ref a ∧ ErrN H1 a C fs ∧ Fr0 X.H_0 a ∧ Raises X (.ref C) ∧ ∀ d, DiO (delH H1 a) d fs → Q (.ref C) d (delH H1 a)) := by
  intro pins s σ H Q I h
  refine wpAny_mono (he.run pins s σ H _ I h) (fun u s1 hu => ?_) fun _ _ x => x
  obtain ⟨v, H1, I1, r1, a, C, fs, rfl, hE, h0, hr, q⟩ := hu
  cases r1
  rcases hE with ⟨e1, ha⟩ | ⟨dx, ha, hd⟩
  · obtain ⟨t1, ho⟩ := exo_at I1.hok ha
    obtain ⟨G, gs, ga, J⟩ := I1.untrack ha h0 hx
    exact ⟨a, _, _, { s1 with heap := G }, delH H1 a, .ref C, none, rfl, J, gs, ga, ho, ⟨rfl, rfl, fun vs e => by cases e; rfl⟩, rfl, rfl, delH_same, rfl, I1.bare, hr, q none (.inl ⟨e1, rfl⟩)⟩
  · obtain ⟨t1, ho⟩ := exo_at I1.hok ha
    obtain ⟨mA, ⟨o, es, ep, ho2, hd2, _⟩, _⟩ := exd_at I1.hok hd
    have ne : dx ≠ a := fun z => by
      subst z
      rw [ho] at ho2
      cases ho2
      exact Data.noConfusion hd2
    obtain ⟨G, gs, ga, J⟩ := I1.untrack ha h0 hx
    exact ⟨a, _, _, { s1 with heap := G }, delH H1 a, .ref C, some dx, rfl, J, gs, ga, ho, ⟨rfl, rfl, fun vs e => by cases e; rfl⟩, rfl, rfl, delH_same, rfl, I1.bare, hr, q (some dx) (.inr ⟨dx, rfl, by rw [delH_ne ne]; exact hd⟩)⟩
end
section
variable {P : Program} {w : World} {K : PySem.W.Frag} {mg : Str → Option Value} {base : Heap}
def spR (n : Nat) : Nat := [10, 41, 40, 33, 43].getD n 0
def fsR (n : Nat) (v : V) : List (Str × V) := ((fsE (spR n)).zip (List.replicate (fsE (spR n)).length v)).reverse
def spRaised (K : PySem.W.Frag) : Sp := fun vs H _ E => ∃ (n : Nat) (v : V), n < 5 ∧ vs = [.int (n : Nat), v] ∧ ∀ d H', Same H H' → DiO H' d (fsR n v) → E (.ref (ad K (spR n))) d H'
theorem sc_raised : FnScope ["way", "thing"] ["way", "thing"] (defScope (top 82)) := ⟨rfl, rfl, rfl, by decide +kernel, rfl, by decide +kernel, by decide +kernel⟩
theorem ok_raised {f : Addr} {fd : FuncData} (W : Ev K mg) (F : FnT K "_law_raised" 82 f fd) : FnOk P w K mg base (L2N.CX P w) 3 f fd ["way", "thing"] (spRaised K) := by
  refine FunD.ok F sc_raised (fun vs H Q E h => ?_) (fun cdv A outer s H vs Q E hr2 h => ?_)
  · obtain ⟨n, v, _, rfl, _⟩ := h
    rfl
  · obtain ⟨n, v, hn, rfl, q⟩ := h
    obtain ⟨fd10, m10, b10, _⟩ := mk_10 (P := P) (w := w) (base := base) W
    obtain ⟨fd33, m33, b33, _⟩ := mk_33 (P := P) (w := w) (base := base) W
    obtain ⟨fd40, m40, b40_0, b40_1, b40_2, b40_3, b40_4⟩ := mk_40 (P := P) (w := w) (base := base) W
    obtain ⟨fd41, m41, b41_0, b41_1, b41_2, b41_3, b41_4⟩ := mk_41 (P := P) (w := w) (base := base) W
    obtain ⟨fd43, m43, b43⟩ := mk_43 (P := P) (w := w) (base := base) W
    have tk := L2N.takes_of (X := cxOf (L2N.CX P w) P w K mg base ["way", "thing"] "_law_raised" (defScope (top 82)) f cdv A outer s H E) (E := E) rfl rfl rfl rfl
    refine ⟨_, pss_cons (ps_if (pt_cmpR op_eq (pv 0) pe_int (nomark _)) (pss_one (L2N.ps_raise rfl tk (pmk_errN rfl (pe_err m10 hr2 b10 rfl (pa_cons (pv 1) pa_nil) pk_nil)))) pss_nil)
      (pss_cons (ps_if (pt_cmpR op_eq (pv 0) pe_int (nomark _)) (pss_one (L2N.ps_raise rfl tk (pmk_errN rfl (pe_err m41 hr2 b41_4 rfl (pa_cons (pv 1) pa_nil) (pk_cons (pv 1) (pk_cons (pv 1) (pk_cons (pv 1) (pk_cons (pv 1) pk_nil)))))))) pss_nil)
      (pss_cons (ps_if (pt_cmpR op_eq (pv 0) pe_int (nomark _)) (pss_one (L2N.ps_raise rfl tk (pmk_errN rfl (pe_errK m40 hr2 b40_4 rfl (pk_cons (pv 1) (pk_cons (pv 1) (pk_cons (pv 1) (pk_cons (pv 1) pk_nil)))))))) pss_nil)
      (pss_cons (ps_if (pt_cmpR op_eq (pv 0) pe_int (nomark _)) (pss_one (L2N.ps_raise rfl tk (pmk_errN rfl (pe_err m33 hr2 b33 rfl (pa_cons (pv 1) pa_nil) pk_nil)))) pss_nil)
      (pss_one (L2N.ps_raise rfl tk (pmk_errN rfl (pe_err0 m43 hr2 b43 rfl))))))), ?_⟩
    have c : ∀ k, k < 45 → Raises (cxOf (L2N.CX P w) P w K mg base ["way", "thing"] "_law_raised" (defScope (top 82)) f cdv A outer s H E) (.ref (ad K k)) := fun k hk => raises_own (W.c hk).o.exC (W.c hk).o.tyC
    obtain rfl | rfl | rfl | rfl | rfl : n = 0 ∨ n = 1 ∨ n = 2 ∨ n = 3 ∨ n = 4 := by omega
    · refine test_eq rfl ⟨v, rfl, rfl, rfl, rfl, by decide, fun a H' s' n' e' => ⟨a, _, _, rfl, e', fr0_none n', c 10 (by decide), fun d hd => q d _ (same_delH s' n') hd⟩⟩
    · refine test_eq rfl (test_eq rfl ⟨v, rfl, v, rfl, v, rfl, v, rfl, v, rfl, rfl, rfl, rfl, by decide, fun a H' s' n' e' => ⟨a, _, _, rfl, e', fr0_none n', c 41 (by decide), fun d hd => q d _ (same_delH s' n') hd⟩⟩)
    · refine test_eq rfl (test_eq rfl (test_eq rfl ⟨v, rfl, v, rfl, v, rfl, v, rfl, rfl, rfl, rfl, by decide, fun a H' s' n' e' => ⟨a, _, _, rfl, e', fr0_none n', c 40 (by decide), fun d hd => q d _ (same_delH s' n') hd⟩⟩))
    · refine test_eq rfl (test_eq rfl (test_eq rfl (test_eq rfl ⟨v, rfl, rfl, rfl, rfl, by decide, fun a H' s' n' e' => ⟨a, _, _, rfl, e', fr0_none n', c 33 (by decide), fun d hd => q d _ (same_delH s' n') hd⟩⟩)))
    · refine test_eq rfl (test_eq rfl (test_eq rfl (test_eq rfl ⟨rfl, rfl, rfl, by decide, fun a H' s' n' e' => ⟨a, _, _, rfl, e', fr0_none n', c 43 (by decide), fun d hd => q d _ (same_delH s' n') hd⟩⟩)))
end
end EPL
-- part KB14
set_option maxHeartbeats 4000000
/-! B14: try with clauses that name five classes; what is caught is not of the written part. -/
namespace EPL
open PySem PySem.Spec PyProof.Rows L2 L2H
section
variable {M : Model} {K : PySem.W.Frag}
/-- the exception at e, of class cls, against a tuple of five classes -/
theorem five_match {c1 c2 c3 c4 c5 cls : Value} {tp e : Addr} {b1 b2 b3 b4 b5 : Bool} {h : Heap} {ot : Obj} {n : Nat} (X : K.In h) (ty : PySem.W.Looks M h (typeOf (.ref e)) cls) (hp : h.get? tp = some ot) (hc : ot.cls = .type "tuple") (hd : ot.data = .seq [c1, c2, c3, c4, c5].toArray n)
    (x1 : PySem.W.exmOne K cls c1 = some b1) (x2 : PySem.W.exmOne K cls c2 = some b2) (x3 : PySem.W.exmOne K cls c3 = some b3) (x4 : PySem.W.exmOne K cls c4 = some b4) (x5 : PySem.W.exmOne K cls c5 = some b5) :
    PySem.W.Looks M h (excMatches (.ref e) (.ref tp)) (b1 || (b2 || (b3 || (b4 || b5)))) := by
  intro A Q E s k0 q
  obtain ⟨hh, g, d, tk, os⟩ := s
  have kk : ∀ b o, h.get? b = some o → hh.get? b = some o := k0
  obtain ⟨e1, S1⟩ := PySem.W.exm_cls (M := M) X x1
  obtain ⟨e2, S2⟩ := PySem.W.exm_cls (M := M) X x2
  obtain ⟨e3, S3⟩ := PySem.W.exm_cls (M := M) X x3
  obtain ⟨e4, S4⟩ := PySem.W.exm_cls (M := M) X x4
  obtain ⟨e5, S5⟩ := PySem.W.exm_cls (M := M) X x5
  have f1 := e1.keeps kk
  have f2 := e2.keeps kk
  have f3 := e3.keeps kk
  have f4 := e4.keeps kk
  have f5 := e5.keeps kk
  have s1 := S1.keeps kk
  have s2 := S2.keeps kk
  have s3 := S3.keeps kk
  have s4 := S4.keeps kk
  have s5 := S5.keeps kk
  have ty' := ty.keeps kk
  have hp' := kk _ _ hp
  have tt : PySem.W.Looks M hh (typeOf (.ref tp)) (.type "tuple") := fun A Q E s k q => wpAny_typeOf_ref (k _ _ hp') (by rw [hc]; exact q)
  have isT : PySem.W.Looks M hh (isInstance (.ref tp) (.type "tuple")) true := tt.andThen (PySem.W.Looks.of_pure isSubtype_tuple_tuple)
  clear e1 e2 e3 e4 e5 S1 S2 S3 S4 S5 x1 x2 x3 x4 x5 ty
  unfold excMatches
  refine wpAny_bind (isT.at ?_)
  dsimp only
  rw [if_pos rfl]
  first
    | refine wpAny_bind (wpAny_seqItems hp' hd ?_)
    | (refine wpAny_bind (wpAny_bind (wpAny_seqItems hp' hd ?_)); refine wpAny_pure ?_)
  dsimp only [Option.getD_some, Option.getD]
  cases b1 <;> cases b2 <;> cases b3 <;> cases b4 <;> cases b5 <;> ((repeat (first | simp only [List.forIn_cons, List.forIn_nil, Bool.not_true, Bool.false_eq_true, if_false, if_true] | lk)); exact q)
end
end EPL
-- part KB15
set_option maxHeartbeats 4000000
/-! B15: try, its catch told apart from its clauses. -/
namespace EPL
open PySem PySem.Spec PyProof.Rows L2 L2H
section
variable {X : Cx}
/-- the exception at a of class cls stands caught in st; it may be landed again -/
structure Caught (X : Cx) (pins : List (Addr × Obj)) (B : Heap) (a : Addr) (cls : Value) (d : Option Addr) (σ : L2.St) (H : Hp) (st : Shared) : Prop where
  inv : L2.Inv X pins σ H st
  fly : HandSPX.FlyingZ B (X.env :: X.outer) a (L2N.Zn cls d) st.heap
  fre : H a = none
  out : X.base.get? a = none
  loc : a ≠ X.env.locals
  nof : a ∉ X.fs
  re : ∀ g, HandSPX.FlyingZ B (X.env :: X.outer) a (L2N.Zn cls d) g → st.heap.UpToSlots g → L2.Inv X pins σ H { st with heap := g }
theorem ps_tryG {body : List Stmt} {c0 : ExceptHandler} {cs : List ExceptHandler} {pos : Pos} {tb : WX → TS} {wz : Ends → WX} (stk : X.stack = X.env :: X.outer) (frm : X.env.frame = some X.env.locals)
    (inner : ∀ (v : WX) (pn : List (Addr × Obj)) (xe : Value → Shared → Prop), L2N.Takes (X.tr pn xe) v → PassesOwn (model X.prog X.w) X.A X.env xe → PSs (X.tr pn xe) body (tb v))
    (clauses : ∀ (pins : List (Addr × Obj)) (D : Ends) (B : Heap) (a : Addr) (cls : Value) (d : Option Addr) (σ : L2.St) (H : Hp) (st : Shared), Caught X pins B a cls d σ H st → wz D cls d σ H →
      wpAny (model X.prog X.w) X.A (handleBy (.ref a) X.env (c0 :: cs)) (SP X pins D) X.xe st) :
    PS X (.Try body (c0 :: cs) [] [] pos) (fun D σ H => tb (wz D) D σ H) := by
  refine ⟨fun pins s0 σ0 H0 D I h => ?_⟩
  have okX := I.ok
  have frs0 : X.A.frames = some (X.env :: X.outer) := okX.frames.trans (congrArg some stk)
  refine wpAny_Try_except (wpAny_mono ((inner (wz D) (X.pn ++ pins) (fun e s1 => wpAny (model X.prog X.w) X.A (noteFrame e X.env)
    (fun _ s2 => wpAny (model X.prog X.w) X.A (setFlight e none) (fun _ s3 => wpAny (model X.prog X.w) X.A (handleBy e X.env (c0 :: cs)) (SP X pins D) X.xe s3) X.xe s2) X.xe s1) (fun u st air => ?_) PassesOwn.looking).run [] s0 σ0 H0 D (I.toTry _) h)
      (fun fl s1 sp => ?_) fun e s1 z => z)
  · obtain ⟨a, B, t0, pn', σ1, H1, cls, d, rfl, I1, inB, ups, sky, fre, os1, bare1, wish⟩ := air
    have I2 : L2.Inv X pins σ1 H1 t0 := I1.ofTry okX
    rw [show (X.tr (X.pn ++ pins) _).stack = X.env :: X.outer from stk] at sky
    show wpAny (model X.prog X.w) X.A (noteFrame (.ref a) X.env) _ _ _
    refine L2N.Sky.land L2N.Zn.steady frs0 frm sky fun g fly up2 => ?_
    obtain ⟨oe, vs, ge, _, dat⟩ := fly.there
    have noFr : a ∉ frs (X.env :: X.outer) := fun m => by
      obtain ⟨_, o2, e2, nf⟩ := fly.2.2.1.mem m
      rw [ge] at e2
      cases e2
      exact nf _ dat
    have land : ∀ {z : Heap}, HandSPX.FlyingZ B (X.env :: X.outer) a (L2N.Zn cls d) z → t0.heap.UpToSlots z → L2.Inv X pins σ1 H1 { st with heap := z } := fun f u => I2.landed inB f.1 u os1 bare1
    refine clauses pins D B a cls d σ1 H1 { st with heap := g } ⟨land fly (ups.trans up2), fly, fre, ?_, fun z => noFr ?_, fun m => noFr ?_, fun z f u => land f ((ups.trans up2).trans u)⟩ wish
    · cases q : X.base.get? a with
      | none => rfl
      | some o =>
        have z := inB a o (I2.bs a o q).1 (by rw [show (X.tr (X.pn ++ pins) _).stack = X.env :: X.outer from stk]; exact noFr)
        rw [fly.2.1] at z
        cases z
    · exact List.mem_filterMap.mpr ⟨X.env, List.mem_cons_self, by rw [frm, z]⟩
    · obtain ⟨e3, m3, q3⟩ := List.mem_filterMap.mp m
      exact List.mem_filterMap.mpr ⟨e3, List.mem_cons_of_mem _ m3, q3⟩
  · cases fl with
    | next =>
      obtain ⟨σ1, H1, J, z⟩ := sp
      exact wpAny_execs_nil ⟨σ1, H1, J.ofTry okX, z⟩
    | ret u =>
      obtain ⟨v, σ1, H1, J, r, z⟩ := sp
      exact ⟨v, σ1, H1, J.ofTry okX, r, z⟩
    | brk =>
      obtain ⟨σ1, H1, J, z⟩ := sp
      exact ⟨σ1, H1, J.ofTry okX, z⟩
    | cont =>
      obtain ⟨σ1, H1, J, z⟩ := sp
      exact ⟨σ1, H1, J.ofTry okX, z⟩
/-! ### the clauses -/
variable {pins : List (Addr × Obj)} {B : Heap} {a : Addr} {cls : Value} {d : Option Addr} {σ : L2.St} {H : Hp} {st : Shared} {D : Ends}
theorem Caught.obj (c : Caught X pins B a cls d σ H st) : ∃ oe vs, st.heap.get? a = some oe ∧ L2N.Zn cls d oe ∧ oe.data = .fields vs := c.fly.there
theorem Caught.ty (c : Caught X pins B a cls d σ H st) : PySem.W.Looks (model X.prog X.w) st.heap (typeOf (.ref a)) cls := by
  obtain ⟨oe, vs, e, z, _⟩ := c.obj
  exact fun A Q E s k q => wpAny_typeOf_ref (k _ _ e) (by rw [z.1]; exact q)
theorem Caught.suite (c : Caught X pins B a cls d σ H st) {oe : Obj} {vs : Array Value} (e : st.heap.get? a = some oe) (dt : oe.data = .fields vs) : L2.Inv (X.suite a ((a, oe) :: (X.pn ++ pins))) [] σ H st := c.inv.suite e dt c.fre c.loc c.nof
/-- more is laid -/
theorem Caught.grow (c : Caught X pins B a cls d σ H st) {g : Heap} {tk : Nat} (k : ∀ b o, st.heap.get? b = some o → g.get? b = some o) : Caught X pins B a cls d σ H { st with heap := g, toks := tk } := by
  obtain ⟨f1, f2, f3, oe, vs, T, oT, ts, z1, z2, z3, z4, z5, z6, z7, z8, z9⟩ := c.fly
  refine ⟨c.inv.kept (t' := tk) k, ⟨fun b o e => k _ _ (f1 b o e), f2, Heap.FunFrames.of_keeps (fun b o e _ => ⟨o, k _ _ e, rfl⟩) f3, oe, vs, T, oT, ts, k _ _ z1, z2, z3, z4, z5, z6, k _ _ z7, z8, z9⟩, c.fre, c.out, c.loc, c.nof, fun g2 f u => ?_⟩
  exact (c.re g2 f ((Heap.UpToSlots.of_keeps k).trans u)).kept (t' := tk) fun _ _ e => e
/-- except x as n: the clause is right -/
theorem clause_as {x n : Str} {cv : Value} {i : Nat} {b0 : Stmt} {suite : List Stmt} {np pos' : Pos} {cs : List ExceptHandler} {ts : Obj → TS} (nd : X.N.Nodup) (hi : X.N[i]? = some n) (hl : X.env.kindOf n = some .local) (hg : Gl X x) (hm : X.mg x = some cv)
    (c : Caught X pins B a cls d σ H st) (hx : PySem.W.exmOne X.K cls cv = some true) (hdb : (x == ("__debug__" : Str)) = false)
    (hs : ∀ (oe : Obj) (pn : List (Addr × Obj)), L2N.Zn cls d oe → (∃ vs, oe.data = .fields vs) → PSs (X.suite a ((a, oe) :: pn)) (b0 :: suite) (ts oe))
    (q : ∀ oe, L2N.Zn cls d oe → (∃ vs, oe.data = .fields vs) → ts oe { nx := fun σ' H' => D.nx (σ'.set i none) H', rt := D.rt, bk := fun σ' H' => D.bk (σ'.set i none) H', ct := fun σ' H' => D.ct (σ'.set i none) H' } (σ.set i (some (.ref a))) H) :
    wpAny (model X.prog X.w) X.A (handleBy (.ref a) X.env (.ExceptHandler (some (.Name x np)) (some n) (b0 :: suite) pos' :: cs)) (SP X pins D) X.xe st := by
  obtain ⟨oe, vs, e1, z1, dt1⟩ := c.obj
  refine wpAny_handleBy_cons (codeAny_handlers_test (ld_glob (X := X.suite a ((a, oe) :: (X.pn ++ pins))) (c.suite e1 dt1) hg hm ?_ hdb)) (by intro z; cases z)
  refine (PySem.W.exm_one (M := model X.prog X.w) c.inv.kIn c.ty hx).here (codeAny_handlers_suite_as ?_)
  refine HandSPX.lands_againZ c.fly fun g fly2 up2 => ?_
  obtain ⟨oe2, vs2, e2, z2, dt2⟩ := fly2.there
  have I2 := (c.re g fly2 up2).suite e2 dt2 c.fre c.loc c.nof
  refine store_ok (X := X.suite a ((a, oe2) :: (X.pn ++ pins))) (v := .ref a) I2 nd hi (.inl hl) rfl (fun s5 I5 => ?_) (.inr hl)
  refine wpAny_mono ((hs oe2 (X.pn ++ pins) z2 ⟨_, dt2⟩).run [] s5 _ H _ I5 (q oe2 z2 ⟨_, dt2⟩)) (fun fl s6 sp => ?_) fun _ _ z => z.elim
  have away : ∀ {τ : L2.St} {G : Hp} {R : Shared → Prop}, L2.Inv (X.suite a ((a, oe2) :: (X.pn ++ pins))) [] τ G s6 → (∀ s7, L2.Inv X pins (τ.set i none) G s7 → R s7) → wpAny (model X.prog X.w) X.A (do bindName X.env n .none; unbindBehindTheSuite X.env n pos') (fun _ s7 => R s7) X.xe s6 :=
    fun {τ G R} I6 r => gone_ok (I6.unsuite c.inv.ok) nd hi hl r
  cases fl with
  | next =>
    obtain ⟨τ, G, I6, z⟩ := sp
    exact away I6 fun s7 J => ⟨_, _, J, z⟩
  | ret u =>
    obtain ⟨v, τ, G, I6, r, z⟩ := sp
    exact away I6 fun s7 J => ⟨_, _, _, J, r, z⟩
  | brk =>
    obtain ⟨τ, G, I6, z⟩ := sp
    exact away I6 fun s7 J => ⟨_, _, J, z⟩
  | cont =>
    obtain ⟨τ, G, I6, z⟩ := sp
    exact away I6 fun s7 J => ⟨_, _, J, z⟩
end
end EPL
-- part KB16
set_option maxHeartbeats 4000000
/-! B16: clauses that name five classes. -/
namespace EPL
open PySem PySem.Spec PyProof.Rows L2 L2H
section
variable {X : Cx}
/-- x stands for c in the text's own names -/
structure Nm (X : Cx) (x : Str) (c : Value) : Prop where
  g : Gl X x
  m : X.mg x = some c
  n : (x == ("__debug__" : Str)) = false
theorem eval_five {pins : List (Addr × Obj)} {σ : L2.St} {H : Hp} {s : Shared} {x1 x2 x3 x4 x5 : Str} {c1 c2 c3 c4 c5 : Value} {p1 p2 p3 p4 p5 tp : Pos} {k : Nat} {Q : Value → Shared → Prop} {E : Value → Shared → Prop} (I : L2.Inv X pins σ H s)
    (n1 : Nm X x1 c1) (n2 : Nm X x2 c2) (n3 : Nm X x3 c3) (n4 : Nm X x4 c4) (n5 : Nm X x5 c5)
    (q : Q (.ref s.heap.objs.size) { s with heap := s.heap.push { cls := .type "tuple", data := .seq [c1, c2, c3, c4, c5].toArray } }) :
    wpAny (model X.prog X.w) X.A (eval (.Tuple [.Name x1 p1, .Name x2 p2, .Name x3 p3, .Name x4 p4, .Name x5 p5] k tp) X.env) Q E s := by
  refine wpAny_Tuple_spliced ?_
  show wpAny _ _ (spliced [(false, eval (.Name x1 p1) X.env), (false, eval (.Name x2 p2) X.env), (false, eval (.Name x3 p3) X.env), (false, eval (.Name x4 p4) X.env), (false, eval (.Name x5 p5) X.env)]) _ _ s
  refine Calls.spliced_cons (ld_glob I n1.g n1.m ?_ n1.n)
  refine Calls.spliced_cons (ld_glob I n2.g n2.m ?_ n2.n)
  refine Calls.spliced_cons (ld_glob I n3.g n3.m ?_ n3.n)
  refine Calls.spliced_cons (ld_glob I n4.g n4.m ?_ n4.n)
  refine Calls.spliced_cons (ld_glob I n5.g n5.m ?_ n5.n)
  exact Calls.spliced_nil ⟨small (Nat.le_of_ble_eq_true rfl), q⟩
variable {pins : List (Addr × Obj)} {B : Heap} {a : Addr} {cls : Value} {d : Option Addr} {σ : L2.St} {H : Hp} {st : Shared} {D : Ends}
/-- except (x1, .., x5): its test, then the suite or the next clause -/
theorem clause_five {x1 x2 x3 x4 x5 : Str} {c1 c2 c3 c4 c5 : Value} {b1 b2 b3 b4 b5 : Bool} {p1 p2 p3 p4 p5 tp pos' : Pos} {k : Nat} {b0 : Stmt} {suite : List Stmt} {cs : List ExceptHandler} {ts : TS} (c : Caught X pins B a cls d σ H st)
    (n1 : Nm X x1 c1) (n2 : Nm X x2 c2) (n3 : Nm X x3 c3) (n4 : Nm X x4 c4) (n5 : Nm X x5 c5)
    (m1 : PySem.W.exmOne X.K cls c1 = some b1) (m2 : PySem.W.exmOne X.K cls c2 = some b2) (m3 : PySem.W.exmOne X.K cls c3 = some b3) (m4 : PySem.W.exmOne X.K cls c4 = some b4) (m5 : PySem.W.exmOne X.K cls c5 = some b5)
    (hs : ∀ (oe : Obj) (pn : List (Addr × Obj)), L2N.Zn cls d oe → (∃ vs, oe.data = .fields vs) → PSs (X.suite a ((a, oe) :: pn)) (b0 :: suite) ts)
    (yes : (b1 || (b2 || (b3 || (b4 || b5)))) = true → ts D σ H)
    (no : (b1 || (b2 || (b3 || (b4 || b5)))) = false → ∀ st', Caught X pins B a cls d σ H st' → wpAny (model X.prog X.w) X.A (handleBy (.ref a) X.env cs) (SP X pins D) X.xe st') :
    wpAny (model X.prog X.w) X.A (handleBy (.ref a) X.env (.ExceptHandler (some (.Tuple [.Name x1 p1, .Name x2 p2, .Name x3 p3, .Name x4 p4, .Name x5 p5] k tp)) none (b0 :: suite) pos' :: cs)) (SP X pins D) X.xe st := by
  obtain ⟨oe, vs, e1, z1, dt1⟩ := c.obj
  refine wpAny_handleBy_cons (codeAny_handlers_test (eval_five (X := X.suite a ((a, oe) :: (X.pn ++ pins))) (c.suite e1 dt1) ⟨n1.g, n1.m, n1.n⟩ ⟨n2.g, n2.m, n2.n⟩ ⟨n3.g, n3.m, n3.n⟩ ⟨n4.g, n4.m, n4.n⟩ ⟨n5.g, n5.m, n5.n⟩ ?_)) (by intro z; cases z)
  have c2 : Caught X pins B a cls d σ H { st with heap := st.heap.push { cls := .type "tuple", data := .seq [c1, c2, c3, c4, c5].toArray } } := c.grow (tk := st.toks) fun b o e => Heap.get?_push_of_some _ e
  refine (five_match (M := model X.prog X.w) c2.inv.kIn c2.ty (Heap.get?_push_size _ rfl) rfl rfl m1 m2 m3 m4 m5).here ?_
  cases r : (b1 || (b2 || (b3 || (b4 || b5)))) with
  | false => exact no r _ c2
  | true =>
    refine codeAny_handlers_suite (HandSPX.lands_againZ c2.fly fun g fly2 up2 => ?_)
    obtain ⟨oe2, vs2, e2, z2, dt2⟩ := fly2.there
    have I2 := (c2.re g fly2 up2).suite e2 dt2 c.fre c.loc c.nof
    refine wpAny_mono ((hs oe2 (X.pn ++ pins) z2 ⟨_, dt2⟩).run [] _ _ H D I2 (yes r)) (fun fl s6 sp => ?_) fun _ _ z => z.elim
    cases fl with
    | next =>
      obtain ⟨τ, G, I6, z⟩ := sp
      exact ⟨τ, G, I6.unsuite c.inv.ok, z⟩
    | ret u =>
      obtain ⟨v, τ, G, I6, r, z⟩ := sp
      exact ⟨v, τ, G, I6.unsuite c.inv.ok, r, z⟩
    | brk =>
      obtain ⟨τ, G, I6, z⟩ := sp
      exact ⟨τ, G, I6.unsuite c.inv.ok, z⟩
    | cont =>
      obtain ⟨τ, G, I6, z⟩ := sp
      exact ⟨τ, G, I6.unsuite c.inv.ok, z⟩
end
end EPL
-- part KB17
set_option maxHeartbeats 4000000
/-! B17: calls in an except suite that are told of the exception. -/
namespace EPL
open PySem PySem.Spec PyProof.Rows L2 L2H
/-- an object that is known, nothing more said of it -/
abbrev held (oe : Obj) : HO := .frz oe (.ext fun _ => True)
section
variable {X : Cx} {a : Addr} {oe : Obj} {vs0 : Array Value} {pn pins : List (Addr × Obj)} {σ : L2.St} {H : Hp} {s : Shared}
theorem hok_held {P : Program} {w : World} {h : Heap} (hok : HOk P w H h) (e : h.get? a = some oe) (n : H a = none) : HOk P w (upd H a (held oe)) h := fun b u z => by
  by_cases q : b = a
  · subst q
    rw [upd_same] at z
    cases z
    exact ⟨e, trivial, ⟨_, e⟩, fun _ _ _ _ => trivial⟩
  · rw [upd_ne q] at z
    exact (hok b u z).stay (fun _ _ _ y => y) (fun c y => by rw [upd_ne (ne_of_none y n)]; exact y) fun c xs y => by rw [upd_ne (ne_of_none y n)]; exact y
theorem hok_away {P : Program} {w : World} {h : Heap} {u0 : HO} (hok : HOk P w H h) (e : H a = some (.frz oe u0)) : HOk P w (delH H a) h := fun b u z => by
  by_cases q : b = a
  · subst q
    rw [delH_same] at z
    cases z
  · rw [delH_ne q] at z
    have nb : ∀ {c : Addr} {o : HO}, H c = some o → (∀ x y, o ≠ .frz x y) → c ≠ a := fun {c o} y ne k => by
      subst k
      rw [e] at y
      exact ne _ _ (Option.some.inj y).symm
    exact (hok b u z).stay (fun _ _ _ y => y) (fun c y => by rw [delH_ne (nb y fun _ _ k => nomatch k)]; exact y) fun c xs y => by rw [delH_ne (nb y fun _ _ k => nomatch k)]; exact y
theorem un_away {fs : List Addr} {H' : Hp} {h h' : Heap} (u : Un fs [] (upd H a (held oe)) H' h h') (e : h.get? a = some oe) (n : H a = none) (e' : h'.get? a = some oe) : Un fs [] H (delH H' a) h h' where
  keep := fun b o g z1 z2 z3 => by
    by_cases q : b = a
    · subst q
      rw [e] at g
      cases g
      exact e'
    · exact u.keep b o g (by rw [upd_ne q]; exact z1) z2 z3
  slot := fun b o g z1 z2 z3 => by
    by_cases q : b = a
    · subst q
      rw [e] at g
      cases g
      exact ⟨oe.slots, e'⟩
    · exact u.slot b o g (by rw [upd_ne q]; exact z1) z2 z3
  free := fun b o g z1 z3 => by
    by_cases q : b = a
    · subst q
      exact delH_same
    · rw [delH_ne q]
      exact u.free b o g (by rw [upd_ne q]; exact z1) z3
  there := fun b o g z => u.there b o g z
  tups := fun b xs g => by
    have q := ne_of_none g n
    rw [delH_ne q]
    exact u.tups b xs (by rw [upd_ne q]; exact g)
  frzs := fun b o x g => by
    have q := ne_of_none g n
    rw [delH_ne q]
    exact u.frzs b o x (by rw [upd_ne q]; exact g)
  tbls := fun b ps g => by
    have q := ne_of_none g n
    rw [delH_ne q]
    exact u.tbls b ps (by rw [upd_ne q]; exact g)
variable {k : Nat} {f : Addr} {fd : FuncData} {ps : List Str} {sp : Around → Sp} {x : Str} {q pos : Pos} {e : Expr} {es : List Expr} {t : TA}
theorem run_hot {Q : VK} {us : List Value} {vs : List V} (F : FnN X.prog X.w X.K X.mg X.base k f fd ps sp) (hr : RoomH k X.A) (hb : Binds X.K fd ps []) (out : X.base.get? a = none)
    (I : L2.Inv (X.suite a ((a, oe) :: pn)) pins σ H s) (r : Vals vs us) (h : H a = none → sp (X.A.mark (some (.ref a))) vs (upd H a (held oe)) (fun v H2 => Q v (delH H2 a)) E0) :
    wpAny (model X.prog X.w) (X.A.mark (some (.ref a))) (call (.ref f) us) (EP (X.suite a ((a, oe) :: pn)) pins σ Q) (fun _ _ => False) s := by
  obtain ⟨ga, na, nl, nf, _⟩ := I.pin (a, oe) (List.mem_append.mpr (.inl List.mem_cons_self))
  have hs := h na
  have hl : us.length = ps.length := by
    rw [← r.length]
    exact F.len _ _ _ _ _ hs
  have b := hb s us I.kIn (by rw [List.append_nil]; exact hl)
  rw [List.append_nil] at b
  have nfr : ∀ c ∈ frs X.stack, c ≠ a := fun c hc z => by
    subst z
    rcases List.mem_cons.mp (I.stkSub c hc) with y | y
    · exact nl y
    · exact nf y
  have nbs : ∀ c o, X.base.get? c = some o → c ≠ a := fun c o y z => by
    rw [z, out] at y
    cases y
  have env1 : Env0 X.prog X.w X.K X.mg X.base (X.A.mark (some (.ref a))) X.stack s (upd H a (held oe)) :=
    ⟨I.ok.frames, I.ok.mod, fun c o y => ⟨(I.bs c o y).1, by rw [upd_ne (nbs c o y)]; exact (I.bs c o y).2⟩, Nat.le_trans I.ok.bsz I.sz, I.stack, fun c y => by rw [upd_ne (nfr c y)]; exact I.stkFree c y, hok_held I.hok ga na, I.bare⟩
  refine wpAny_call (codeAny_mono (F.run (X.A.mark (some (.ref a))) X.stack s (upd H a (held oe)) ⟨us, []⟩ us vs (fun v H2 => Q v (delH H2 a)) E0 ⟨hr.dp, hr.un⟩ env1 b r hs) fun r' s' z => ?_)
  cases r' with
  | error er => exact z.elim
  | ok fl =>
    cases fl with
    | ret u =>
      obtain ⟨v, H2, os2, bare2, un2, hok2, rv, qq⟩ := z
      have e2 := un2.frzs a oe _ upd_same
      exact ⟨v, delH H2 a, I.call' (ch := []) os2 (un_away un2 ga na (hok2 a _ e2).1) (hok_away hok2 e2) bare2 (fun c y => absurd y (by simp)), rv, qq⟩
    | next => exact z.elim
    | brk => exact z.elim
    | cont => exact z.elim
/-- f(e, ..) in the suite -/
def tCallH (a : Addr) (oe : Obj) (sp : Sp) (t : TA) : TE := fun σ H Q => t σ H fun vs H1 => H1 a = none → sp vs (upd H1 a (held oe)) (fun v H2 => Q v (delH H2 a)) E0
theorem pe_calH (c : Cal X.prog X.w X.K X.mg X.base x k ps sp) (hr : RoomH k X.A) (out : X.base.get? a = none) (hg : Gl X x) (ha : PA (X.suite a ((a, oe) :: pn)) (e :: es) t)
    (hdb : (x == ("__debug__" : Str)) = false := by decide) (he : starEach (e :: es) X.env = (false, eval e X.env) :: starEach es X.env := by rfl) (hpl : (backTo pos (starEach es X.env)).any (·.1) = false := by rfl) :
    PE (X.suite a ((a, oe) :: pn)) (.Call (.Name x q) (e :: es) [] pos) (tCallH a oe (sp (X.A.mark (some (.ref a)))) t) := by
  obtain ⟨f, fd, F, hm, hk, hb⟩ := c
  refine ⟨fun pins s σ H Q I h => ?_⟩
  refine wpAny_Call_Name_kw (ld_glob I hg hm ?_ hdb)
  refine PySem.W.callWith_K (h₀ := X.base) I.ok.mod.kin hk (thn (ha.run pos pins s σ H _ I h) fun us s1 ⟨vs, H1, I1, r, z⟩ => ⟨I1.kIn, ?_⟩) he hpl
  exact run_hot (X := X) F hr hb out I1 r z
end
end EPL
-- part KB18
set_option maxHeartbeats 4000000
/-! B18: _law_caught. -/
namespace EPL
open PySem PySem.Spec PyProof.Rows L2 L2H
section
variable {P : Program} {w : World} {K : PySem.W.Frag} {mg : Str → Option Value} {base : Heap}
/-- what is raised is caught, is what it should be; the box is one draw further -/
def spCaught (K : PySem.W.Frag) (A : Around) : Sp := fun vs H Q _ => A.handled = none ∧ A.guards = some [] ∧ ∃ (b : Addr) (g : Bool) (x2 : Int) (m : Nat) (v : V) (d : PyData), vs = [.ref b, v] ∧ BoxAt H b g x2 m ∧ m < 800 ∧ Okn 100 4 d ∧ Dq K (del H b) v d ∧ ∀ H', Same (del H b) (del H' b) → Q (.bl true) H'
theorem sc_caught : FnScope ["box", "thing", "way", "met", "e"] ["box", "thing"] (defScope (top 83)) := ⟨rfl, rfl, rfl, by decide +kernel, rfl, by decide +kernel, by decide +kernel⟩
/-- what holds within the first suite -/
structure Z4 where
  v : V
  d : PyData
  n : Nat
  dd : Option Addr
  ml : Addr
  hd : Okn 100 4 d
  hn : n < 5
def Pre4 (K : PySem.W.Frag) (a : Addr) (z : Z4) (σ : St) (H : Hp) : Prop := z.n < 4 ∧ σ[1]? = some (some z.v) ∧ σ[2]? = some (some (.int (z.n : Nat))) ∧ σ[4]? = some (some (.ref a)) ∧ Dq K H z.v z.d ∧ DiO H z.dd (fsR z.n z.v)
theorem lay4 {a : Addr} (z : Z4) : Lay (Pre4 K a z) := fun σ H H' s h => ⟨h.1, h.2.1, h.2.2.1, h.2.2.2.1, h.2.2.2.2.1.same s, h.2.2.2.2.2.imp id fun ⟨dx, e1, e2⟩ => ⟨dx, e1, s _ _ e2⟩⟩
theorem dio_same {H H' : Hp} {d : Option Addr} {fs : List (Str × V)} (h : DiO H d fs) (s : Same H H') : DiO H' d fs := h.imp id fun ⟨dx, e1, e2⟩ => ⟨dx, e1, s _ _ e2⟩
theorem errF_hot {H : Hp} {a C : Addr} {oe : Obj} {d : Option Addr} {fs : List (Str × V)} (zn : L2N.Zn (.ref C) d oe) (dt : ∃ vs, oe.data = .fields vs) (na : H a = none) (hd : DiO H d fs) : ErrF (upd H a (held oe)) a C fs := by
  rcases hd with ⟨e1, rfl⟩ | ⟨dx, rfl, e2⟩
  · exact .inl ⟨e1, .inr ⟨oe, _, upd_same, zn.zc, dt⟩⟩
  · exact .inr ⟨dx, .inr ⟨oe, _, upd_same, zn.zc, dt⟩, by rw [upd_ne (ne_of_none e2 na)]; exact e2⟩
theorem quiet_hot {A : Around} {H : Hp} {a : Addr} {cls : Value} {oe : Obj} {d : Option Addr} (zn : L2N.Zn cls d oe) (dt : ∃ vs, oe.data = .fields vs) : Quiet (A.mark (some (.ref a))) (upd H a (held oe)) := by
  obtain ⟨vs, e⟩ := dt
  exact .inr ⟨a, oe, _, vs, rfl, upd_same, e, zn.2.2 vs e⟩
theorem same_hot {H H' : Hp} {a : Addr} {o : HO} (na : H a = none) (s : Same (upd H a o) H') : Same H (delH H' a) := fun b u z => by
  have q := ne_of_none z na
  rw [delH_ne q]
  exact s _ _ (by rw [upd_ne q]; exact z)
theorem val_eq {σ : St} {H : Hp} {j : Nat} {a b : Int} {Q : VK} (h : σ[j]? = some (some (.int a))) (q : Q (.bl (decide (a = b))) H) : tOp rEq (tVar j) (tC (.int b)) σ H Q :=
  ⟨.int a, h, rfl, by
    by_cases e : a = b
    · subst e
      rw [decide_eq_true rfl] at q ⊢
      exact q
    · rw [decide_eq_false e] at q
      rw [decide_eq_false fun z => e (V.int.inj z)]
      exact q⟩
def raisedL : List V := [.int 10, .int 41, .int 40, .int 33, .int 43]
theorem raised_at {n : Nat} (h : n < 5) : ([V.int 10, V.int 41, V.int 40, V.int 33, V.int 43] : List V)[n]? = some (.int (spR n : Nat)) := by
  match n, h with
  | 0, _ => rfl
  | 1, _ => rfl
  | 2, _ => rfl
  | 3, _ => rfl
  | 4, _ => rfl
theorem spR_lt : ∀ n, n < 5 → spR n < 45 := by decide
theorem spR_lt2 : ∀ n, n < 4 → spR n < 42 := by decide
theorem spR_pos : ∀ n, n < 4 → 0 < (fsE (spR n)).length := by decide +kernel
theorem last_rep {v : V} : ∀ n, 0 < n → atI (List.replicate n v) (-1) = some v := fun n h => by
  obtain ⟨m, rfl⟩ : ∃ m, n = m + 1 := ⟨n - 1, by omega⟩
  rw [List.replicate_succ']
  exact atI_last _ _
/-- the first try: what is wished of the exception -/
def wz1 (K : PySem.W.Frag) (b : Addr) (D : Ends) : WX := fun cls dd σ H => ∃ z : Z4, cls = .ref (ad K (spR z.n)) ∧ z.dd = dd ∧ σ = [some (.ref b), some z.v, some (.int (z.n : Nat)), some (.ref z.ml), none] ∧ H z.ml = some (.lst []) ∧ Dq K H z.v z.d ∧ DiO H dd (fsR z.n z.v) ∧
  ∀ H', Same (del H z.ml) (del H' z.ml) → H' z.ml = some (.lst [.bl true]) → D.nx σ H'
/-- the second -/
def wz2 (K : PySem.W.Frag) (b : Addr) (D : Ends) : WX := fun cls dd σ H => ∃ (n : Nat) (v : V) (ml : Addr), n < 5 ∧ cls = .ref (ad K (spR n)) ∧ σ = [some (.ref b), some v, some (.int (n : Nat)), some (.ref ml), none] ∧ H ml = some (.lst [.bl true]) ∧
  ∀ H', Same (del H ml) (del H' ml) → H' ml = some (.lst [.bl true, .bl true]) → D.nx σ H'
/-- the first suite's reading -/
def tsC (K : PySem.W.Frag) (a : Addr) (A : Around) (z : Z4) (oe : Obj) : TS := tDrop (tBM K "list" rAppend (tVar 3) (tCons (tAndV (tCallH a oe (spIs K (A.mark (some (.ref a)))) (tCons (tVar 4) (tCons (tOp (rIxL K)
  (tLst (tCons (tC (.int 10)) (tCons (tC (.int 41)) (tCons (tC (.int 40)) (tCons (tC (.int 33)) (tCons (tC (.int 43)) tNil)))))) (tVar 2)) tNil))) (tOrV (tOp rEq (tVar 2) (tC (.int 4))) (tSameV (Pre4 K a z)))) tNil))
abbrev tRs (K : PySem.W.Frag) (v : WX) : TS := tDrop (tCallS (spRaised K) (WE v) (tCons (tVar 2) (tCons (tVar 1) tNil)))
theorem ok_caught {f fR : Addr} {fd fdR : FuncData} (W : Ev K mg) (F : FnT K "_law_caught" 83 f fd) (FR : FnT K "_law_raised" 82 fR fdR) (gR : mg "_law_raised" = some (.ref fR))
    (cTk : Cal P w K mg base "_law_take" 1 ["box", "many"] spTake) (cIs : Cal P w K mg base "_law_is" 2 ["e", "spot"] (spIs K)) (cKe : Cal P w K mg base "_law_kept" 1 ["e"] (spKept K)) (hmp : mg "repr" = none) : FnN P w K mg base 4 f fd ["box", "thing"] (spCaught K) := by
  have GR : FnOk P w K mg base (L2N.CX P w) 3 fR fdR ["way", "thing"] (spRaised K) := ok_raised W FR
  have bR : Binds K fdR ["way", "thing"] [] := FR.bindsN fun _ _ _ _ _ _ us hl => match us, hl with | [_, _], _ => rfl
  refine fn_calm F sc_caught (fun A vs H Q E h => ?_) (fun A vs H Q E h => h.1) (fun cdv A outer s H vs Q E hr h => ?_)
  · obtain ⟨_, _, b, g, x2, m, v, d, rfl, _⟩ := h
    rfl
  · obtain ⟨hA, hG, b, g, x2, m, v, d, rfl, hb, hm, okd, hvd, q⟩ := h
    have nd := sc_caught.nd
    have h3 : RoomH 3 (A.deeper (envOfC "_law_caught" (defScope (top 83)) s.heap.objs.size f cdv)) := ⟨hr.dp, hr.un⟩
    have h2 := h3.mono (show 2 ≤ 3 by decide)
    have h1 := h3.mono (show 1 ≤ 3 by decide)
    have hu : (A.deeper (envOfC "_law_caught" (defScope (top 83)) s.heap.objs.size f cdv)).units + 64 < cLine := by
      have := h3.un
      omega
    refine ⟨_, pss_cons (ps_par (i := 2) (j := 3) rfl nd rfl rfl (by decide) rfl rfl (pa_cons (pe_cal cTk h1 rfl (pa_cons (pv 0) (pa_cons pe_int pa_nil))) (pa_cons (pe_lst pa_nil) pa_nil)) rfl)
      (pss_cons (ps_tryG (wz := wz1 K b) (tb := tRs K) rfl rfl (fun v pn xe tk po => pss_one (ps_expr (pe_callS (CX := L2N.CX P w) (E := WE v) GR hr rfl gR FR.kp bR (fun σ => L2N.passAt tk σ) (pa_cons (pv 2) (pa_cons (pv 1) pa_nil))))) ?_)
      (pss_cons (ps_tryG (wz := wz2 K b) (tb := tRs K) rfl rfl (fun v pn xe tk po => pss_one (ps_expr (pe_callS (CX := L2N.CX P w) (E := WE v) GR hr rfl gR FR.kp bR (fun σ => L2N.passAt tk σ) (pa_cons (pv 2) (pa_cons (pv 1) pa_nil))))) ?_)
      (pss_one (ps_ret (pe_cmpR (op_eqD hu) (pv 3) (pe_lst (pa_cons pe_bl (pa_cons pe_bl pa_nil))) (nomark _)))))), ?_⟩
    · intro pins D B a cls d σ H st c wish
      obtain ⟨z, rfl, hzd, rfl, hml, hdq, hdi, nx⟩ := wish
      subst hzd
      have out := c.out
      refine clause_as (i := 4) (ts := tsC K a (A.deeper (envOfC "_law_caught" (defScope (top 83)) s.heap.objs.size f cdv)) z) nd rfl rfl rfl W.pac.g c (W.exmPa (spR_lt _ z.hn)) rfl ?hs ?hq
      case hs => exact fun oe pn zn dt => pss_one (ps_expr (pe_bm PySem.F.plainAttrs_list PySem.F.slot_list_append PySem.F.type_list_append mt_append (pv 3)
        (pa_cons (pe_and (pe_calH (x := "_law_is") cIs h2 out rfl (pa_cons (pv 4) (pa_cons (pe_ix (r := rIxL K) ix_list (pe_lst (pa_cons pe_int (pa_cons pe_int (pa_cons pe_int (pa_cons pe_int (pa_cons pe_int pa_nil)))))) (pv 2) fun _ _ => rfl) pa_nil)))
          (pe_one (pe_or (pe_cmpR op_eq (pv 2) pe_int (nomark _)) (pe_one (pe_reprEq (Pre := Pre4 K a z) (d := z.d) W.sys hG hu (lay4 z) rfl hmp (z.hd.mono (by decide) (by decide))
            (pe_imp (t' := tEl (Pre4 K a z) (RQ K) z.d) (pe_ix (r := rIxL K) ix_list (pe_calH (x := "_law_kept") cKe h1 out rfl (pa_cons (pv 4) pa_nil)) (pe_un un_neg pe_int) fun _ _ => rfl) (by
              intro σ H Q h
              obtain ⟨p, q⟩ := h
              refine ⟨_, p.2.2.2.1, fun na => ?_⟩
              refine ⟨spR z.n, a, List.replicate (fsE (spR z.n)).length z.v, spR_lt2 _ p.1, rfl, List.length_replicate, errF_hot zn dt na p.2.2.2.2.2, fun l nl => ?_⟩
              have s1 := same_hot na (same_upd (o := .lst (List.replicate (fsE (spR z.n)).length z.v)) nl)
              refine ⟨1, rfl, l, _, _, z.v, rfl, rfl, .inl (.inl ?_), last_rep _ (spR_pos _ p.1), q _ _ s1 (p.2.2.2.2.1.same s1)⟩
              have ne : l ≠ a := fun k => by
                subst k
                rw [upd_same] at nl
                cases nl
              rw [delH_ne ne]
              exact upd_same))
            (pe_varD (i := 1) (d := z.d) (pv 1) fun σ H p => ⟨_, p.2.1, p.2.2.2.2.1⟩)))))) pa_nil)))
      case hq =>
        intro oe zn dt
        refine ⟨.ref z.ml, rfl, .inl ⟨rfl, _, .inl (.inl hml)⟩, .ref a, rfl, small (Nat.le_of_ble_eq_true rfl), fun p np => ⟨.int (z.n : Nat), rfl, p, _, _, .int (spR z.n : Nat), rfl, rfl, .inl (.inl upd_same), atI_nat (raised_at z.hn), fun na => ?_⟩⟩
        refine ⟨spR z.n, a, fsR z.n z.v, spR_lt _ z.hn, rfl, errF_hot zn dt na (dio_same hdi (same_upd np)), quiet_hot zn dt, fun H2 s2 => ⟨true, rfl, iteT ?_⟩⟩
        have S : Same H (delH H2 a) := (same_upd np).trans (same_hot na s2)
        have fin : ∀ G, Same H G → rAppend (.ref z.ml) [.bl true] G (fun _ H1 => D.nx [some (.ref b), some z.v, some (.int (z.n : Nat)), some (.ref z.ml), none] H1) := fun G sG => ⟨z.ml, [], .bl true, rfl, rfl, sG _ _ hml, small1000 (by decide), nx _ (by rw [del_upd]; exact del_grow sG) upd_same⟩
        refine val_eq rfl ⟨_, rfl, ?_⟩
        by_cases e4 : z.n = 4
        · rw [if_pos (by rw [e4]; exact decide_eq_true rfl)]
          exact fin _ S
        · rw [if_neg (by rw [decide_eq_false (by omega)]; exact Bool.false_ne_true)]
          exact ⟨⟨by have := z.hn; omega, rfl, rfl, rfl, hdq.same S, dio_same hdi S⟩, fun H3 s3 => fin _ (S.trans s3)⟩
    · intro pins D B a cls d σ H st c wish
      obtain ⟨n, v, ml, hn, rfl, rfl, hml, nx⟩ := wish
      have no9 : ∀ n, n < 5 → (decide (spR n = 9) || (decide (spR n = 39) || (decide (spR n = 34) || (decide (spR n = 32) || decide (spR n = 44))))) = false := by decide
      have yes10 : ∀ n, n < 5 → (decide (spR n = 10) || (decide (spR n = 41) || (decide (spR n = 40) || (decide (spR n = 33) || decide (spR n = 43))))) = true := by decide
      have hk := spR_lt n hn
      refine clause_five (ts := tDrop (tBM K "list" rAppend (tVar 3) (tCons (tC (.bl false)) tNil))) c ⟨rfl, W.g 9 (by decide), rfl⟩ ⟨rfl, W.g 39 (by decide), rfl⟩ ⟨rfl, W.g 34 (by decide), rfl⟩ ⟨rfl, W.g 32 (by decide), rfl⟩ ⟨rfl, W.g 44 (by decide), rfl⟩ (W.exm hk) (W.exm hk) (W.exm hk) (W.exm hk) (W.exm hk)
        (fun oe pn zn dt => pss_one (ps_expr (pe_bm PySem.F.plainAttrs_list PySem.F.slot_list_append PySem.F.type_list_append mt_append (pv 3) (pa_cons pe_bl pa_nil)))) (fun y => by rw [no9 n hn] at y; cases y) (fun _ st2 c2 => ?_)
      refine clause_five (ts := tDrop (tBM K "list" rAppend (tVar 3) (tCons (tC (.bl true)) tNil))) c2 ⟨rfl, W.g 10 (by decide), rfl⟩ ⟨rfl, W.g 41 (by decide), rfl⟩ ⟨rfl, W.g 40 (by decide), rfl⟩ ⟨rfl, W.g 33 (by decide), rfl⟩ ⟨rfl, W.g 43 (by decide), rfl⟩ (W.exm hk) (W.exm hk) (W.exm hk) (W.exm hk) (W.exm hk)
        (fun oe pn zn dt => pss_one (ps_expr (pe_bm PySem.F.plainAttrs_list PySem.F.slot_list_append PySem.F.type_list_append mt_append (pv 3) (pa_cons pe_bl pa_nil)))) (fun _ => ?_) (fun y => by rw [yes10 n hn] at y; cases y)
      exact ⟨.ref ml, rfl, .inl ⟨rfl, _, .inl (.inl hml)⟩, ml, _, .bl true, rfl, rfl, hml, small1000 (by decide), nx _ (by rw [del_upd]; exact fun _ _ y => y) upd_same⟩
    · obtain ⟨x0, x3, k1, k2, k3, k4, k5, k6⟩ := hb.ex
      refine ⟨.ref b, rfl, hA, b, 5, x0, g, x2, x3, rfl, by decide, by decide, k1, k2, k3, k4, k5, (by omega), fun n y0 y3 hn _ _ _ => ?_⟩
      have hv1 : Dq K (upd H b (bx y0 g x2 y3)) v d := (show Dq K (del (upd H b (bx y0 g x2 y3)) b) v d by rw [del_upd]; exact hvd).same del_sub
      have t1 : Same (del H b) (del (upd H b (bx y0 g x2 y3)) b) := by
        rw [del_upd]
        exact fun _ _ y => y
      generalize upd H b (bx y0 g x2 y3) = H1 at hv1 t1
      refine ⟨small (by decide), fun ml nml => ?_⟩
      have hml : upd H1 ml (.lst []) ml = some (.lst []) := upd_same
      have hv2 := hv1.same (same_upd (o := .lst []) nml)
      have t2 : Same H1 (upd H1 ml (.lst [])) := same_upd nml
      generalize upd H1 ml (.lst []) = H2 at hml hv2 t2
      refine ⟨_, _, rfl, ?_⟩
      show tSeq _ _ _ [some (.ref b), some v, some (.int (n : Nat)), some (.ref ml), none] H2
      refine ⟨.int (n : Nat), rfl, v, rfl, n, v, hn, rfl, fun dd H3 s3 hdd => ?_⟩
      refine ⟨⟨v, d, n, dd, ml, okd, hn⟩, rfl, rfl, rfl, s3 _ _ hml, hv2.same s3, hdd, fun H4 r4 h4 => ?_⟩
      refine ⟨.int (n : Nat), rfl, v, rfl, n, v, hn, rfl, fun d2 H5 s5 _ => ?_⟩
      refine ⟨n, v, ml, hn, rfl, rfl, s5 _ _ h4, fun H6 r6 h6 => ?_⟩
      refine ⟨.ref ml, rfl, small (Nat.le_of_ble_eq_true rfl), fun p np => ?_⟩
      refine ⟨.list [.bool true, .bool true], .list [.bool true, .bool true], .lst (.inl (.inl (same_upd np _ _ h6))) (.cons (.bl _) (.cons (.bl _) .nil)), .lst (.inl (.inl upd_same)) (.cons (.bl _) (.cons (.bl _) .nil)), by kernel_rfl, by kernel_rfl, ?_⟩
      have e : PyData.eqv (.list [.bool true, .bool true]) (.list [.bool true, .bool true]) = true := by simp [PyData.eqv, PyData.eqvAll]
      rw [e]
      refine q _ fun x o hx => ?_
      have xb : x ≠ b := fun k => by
        subst k
        rw [show del H x x = none from if_pos rfl] at hx
        cases hx
      have y1 : H1 x = some o := del_sub _ _ (t1 _ _ hx)
      have xm : x ≠ ml := ne_of_none y1 nml
      have y3 := s3 _ _ (t2 _ _ y1)
      have y4 : H4 x = some o := del_sub _ _ (r4 _ _ (by rw [del_other xm]; exact y3))
      have y6 : H6 x = some o := del_sub _ _ (r6 _ _ (by rw [del_other xm]; exact s5 _ _ y4))
      rw [del_other xb]
      exact same_upd np _ _ y6
end
end EPL
-- part KB19
set_option maxHeartbeats 4000000
/-! B19: {e for x in xs}, e a text; how many there are. -/
namespace EPL
open PySem PySem.Spec PyProof.Rows L2 L2H
/-- at a stands a set of texts, S its members, n their number -/
def SetTx (P : Program) (w : World) (a : Addr) (S : Str → Bool) (n : Nat) : HO := .ext fun h => h.SetOf (strKind P w) a S n
theorem setTx_ok {P : Program} {w : World} {H : Hp} {h : Heap} {a : Addr} {S : Str → Bool} {n : Nat} (R : h.SetOf (strKind P w) a S n) : ObjOk P w H h a (SetTx P w a S n) := by
  refine ⟨R, ?_, fun h1 h2 z k => ?_⟩
  · obtain ⟨o, es, ep, t, e, _⟩ := R
    exact ⟨o, e⟩
  · obtain ⟨o, es, ep, t, e, r⟩ := z
    exact ⟨o, es, ep, t, k _ e, r⟩
section
variable {X : Cx} {pins : List (Addr × Obj)} {σ : L2.St} {H : Hp} {s : Shared}
theorem setTx_get {a : Addr} {S : Str → Bool} {n : Nat} (I : L2.Inv X pins σ H s) (e : H a = some (SetTx X.prog X.w a S n)) : s.heap.SetOf (strKind X.prog X.w) a S n := (I.hok a _ e).1
theorem setTx_add {E : Value → Shared → Prop} {D : Addr} {S : Str → Bool} {n : Nat} {y : Str} {t : Tok} {Q : Value → Shared → Prop} (I : L2.Inv X pins σ H s) (e : H D = some (SetTx X.prog X.w D S n)) (room : n + 1 < scanBound)
    (h : ∀ s', L2.Inv X pins σ (upd H D (SetTx X.prog X.w D (fun z => S z || decide (z = y)) (if S y then n else n + 1))) s' → Q .none s') : wpAny (model X.prog X.w) X.A (call (.builtin "set.add") [.ref D, .str y t]) Q E s := by
  refine call_set_add (knd := strKind X.prog X.w) (k := y) (by show Value.isStrOf y (.str y t) = true; simp [Value.isStrOf]) rfl (setTx_get I e) room fun g sb R => ?_
  have there : ∃ u, g.get? D = some u := by
    obtain ⟨o, _, _, _, z, _⟩ := R
    exact ⟨o, z⟩
  exact h _ (I.write (e := D) (t' := s.toks + 1) (by rw [e]; trivial) (.inl rfl) (fun b u nb z => (sb.2 b nb).trans z) there (setTx_ok R))
/-- len(a set of texts) -/
def rLenTx (P : Program) (w : World) : List V → Hp → VK → Prop := fun vs G Q => ∃ a S n, vs = [.ref a] ∧ G a = some (SetTx P w a S n) ∧ Q (.int (n : Nat)) G
theorem call_lenTx : CallR X (.builtin "len") (rLenTx X.prog X.w) := by
  intro pins s σ H vs us Q I r h
  obtain ⟨a, S, n, rfl, e, q⟩ := h
  rw [Vals.ref1 r]
  obtain ⟨o, es, ep, t, z1, z2, z3, z4, z5, z6, z7, z8⟩ := setTx_get I e
  refine call_len_set z1 z2 z3 z7 ?_ ?_
  · have b : scanBound < 2 ^ 63 := by decide
    omega
  · subst z8
    exact ⟨.int (es.size : Nat), H, I.tok _, ⟨_, rfl⟩, q⟩
/-- the comprehension's reading; D the new set -/
def tScT (P : Program) (w : World) (wi : TI) (g : TG) (tt : TT) (te : TE) (vs : List Nat) : TE := fun σ H Q => wi σ H fun J H1 => ∀ D, H1 D = none → ∃ W : Nat → Nat → Hp → Prop, (∃ m, W 0 m (upd H1 D (SetTx P w D (fun _ => false) 0))) ∧ ∀ i m H, W i m H →
  (J.stop i H ∧ Q (.ref D) H) ∨ (J.go i H ∧ ∃ Nx : Hp → Prop, (∀ H', Nx H' → ∃ m', m' < m ∧ W (i + 1) m' H') ∧ ∀ x H', J.yld i H x H' → g x (wipe σ vs) H' fun σ2 H2 => wipe σ2 vs = wipe σ vs ∧ tt σ2 H2 fun b H3 =>
    if b = true then te σ2 H3 fun y H4 => ∃ (c : Str) (S : Str → Bool) (n : Nat), y = .str c ∧ H4 D = some (SetTx P w D S n) ∧ n + 1 < scanBound ∧ Nx (upd H4 D (SetTx P w D (fun z => S z || decide (z = c)) (if S c then n else n + 1))) else Nx H3)
theorem pe_scT {elt tg iter : Expr} {ifs : List Expr} {scope : Scope} {own : List (Str × Nat)} {pos : Pos} {wi : TI} {g : TG} {tt : TT} {te : TE} (calm : X.calm = true) (nd : X.N.Nodup) (hi : PI X tg iter wi) (blk : BlkOk X.N X.env.scope scope own)
    (hg : ∀ (s : Shared) (G : Hp) (C : Addr) (cl : List (Str × Addr)) (fp : List Addr), PG (X.blk s G scope (compEnvC scope cl C X.env) fp) tg g)
    (ht : ∀ (s : Shared) (G : Hp) (C : Addr) (cl : List (Str × Addr)) (fp : List Addr), PTs (X.blk s G scope (compEnvC scope cl C X.env) fp) ifs tt)
    (he : ∀ (s : Shared) (G : Hp) (C : Addr) (cl : List (Str × Addr)) (fp : List Addr), PE (X.blk s G scope (compEnvC scope cl C X.env) fp) elt te)
    (fold : ∀ x, foldedSetIterable iter X.env x = pure x := by intro _; rfl) :
    PE X (.SetComp elt [⟨tg, iter, ifs, 0⟩] scope pos) (tScT X.prog X.w wi g tt te (own.map (·.2))) := by
  refine ⟨fun pins s0 σ H Q I h => ?_⟩
  rw [PpSet.eval_SetComp]
  have frees : ∀ y ∈ scope.names, y.2 = .free → ∃ c, X.env.cells.lookup y.1 = some c := fun y m e => (blk.free y m e).elim (fun z => I.ok.has _ (.inl z)) fun z => I.ok.has _ (.inr z)
  refine wpAny_comprehension_free (use := none) rfl fold (closure_ok frees) blk.kind (fun y m e => by rw [blk.uniq y m, e]) (thn (hi.run pins s0 σ H _ I h) fun xv s1 z1 => thn z1 fun itv s2 z2 => ?_)
  obtain ⟨it, fp, tn, J, H2, rfl, I2, T, st2, f2, q⟩ := z2
  refine wpAny_newSet_of (knd := strKind X.prog X.w) fun led fresh => newEnv_comp ?_
  have nD : H2 s2.heap.objs.size = none := I2.hok.fresh (Nat.le_refl _)
  obtain ⟨W, ⟨m0, w0⟩, turn⟩ := q _ nD
  have I3 : L2.Inv X pins σ (upd H2 s2.heap.objs.size (SetTx X.prog X.w s2.heap.objs.size (fun _ => false) 0)) { s2 with heap := s2.heap.push { cls := .type "set", dict := none, data := .set #[] 0 (.fresh 0 0 led) } } :=
    I2.laid (t' := s2.toks) (fun b o z => Heap.get?_push_of_some _ z) (Nat.le_refl _) (setTx_ok fresh)
  have small2 : ∀ b ∈ fp, b < s2.heap.objs.size := fun b m => by
    obtain ⟨o, z, _⟩ := T.obj _ _ st2 b m
    exact Heap.lt_size z
  have f3 : ∀ b ∈ fp, FpOk X pins (upd H2 s2.heap.objs.size (SetTx X.prog X.w s2.heap.objs.size (fun _ => false) 0)) b ∧ b < (s2.heap.push { cls := .type "set", dict := none, data := .set #[] 0 (.fresh 0 0 led) }).objs.size := fun b m =>
    ⟨⟨by rw [upd_ne (Nat.ne_of_lt (small2 b m))]; exact (f2 b m).1, (f2 b m).2⟩, by rw [Heap.size_push]; exact Nat.lt_succ_of_lt (small2 b m)⟩
  have st3 : tn 0 (s2.heap.push { cls := .type "set", dict := none, data := .set #[] 0 (.fresh 0 0 led) }) := T.keep _ _ _ st2 fun b _ o z => Heap.get?_push_of_some _ z
  generalize es3 : ({ s2 with heap := s2.heap.push { cls := .type "set", dict := none, data := .set #[] 0 (.fresh 0 0 led) } } : Shared) = s3 at I3
  have h3 : s3.heap = s2.heap.push { cls := .type "set", dict := none, data := .set #[] 0 (.fresh 0 0 led) } := by rw [← es3]
  rw [← h3] at f3 st3
  generalize s2.heap.objs.size = D at *
  generalize upd H2 D (SetTx X.prog X.w D (fun _ => false) 0) = H3 at *
  have I4 := block_start I3 blk nd f3
  have pg := hg s3 H3 s3.heap.objs.size (cellsFrom (s3.heap.objs.size + 1) scope.names (cloFrom X.env.cells scope.names [])) fp
  have pt := ht s3 H3 s3.heap.objs.size (cellsFrom (s3.heap.objs.size + 1) scope.names (cloFrom X.env.cells scope.names [])) fp
  have pe := he s3 H3 s3.heap.objs.size (cellsFrom (s3.heap.objs.size + 1) scope.names (cloFrom X.env.cells scope.names [])) fp
  show codeAny _ _ (.compStart (.SetComp elt [⟨tg, iter, ifs, 0⟩] scope pos) 0 (.ref it) (.ref D) (compEnvC scope (cellsFrom (s3.heap.objs.size + 1) scope.names (cloFrom X.env.cells scope.names [])) s3.heap.objs.size X.env))
    (compPost (model X.prog X.w) X.A X.xe none (EP X pins σ Q) (.ref D) s3.heap.objs.size) { s3 with heap := pushCells (s3.heap.push { cls := .type "dict", data := .dict #[] }) scope.names }
  generalize hce : compEnvC scope (cellsFrom (s3.heap.objs.size + 1) scope.names (cloFrom X.env.cells scope.names [])) s3.heap.objs.size X.env = ce at I4 pg pt pe ⊢
  have cL : ce.locals = s3.heap.objs.size := by
    rw [← hce]
    rfl
  have st4 : tn 0 (pushCells (s3.heap.push { cls := .type "dict", data := .dict #[] }) scope.names) := T.keep _ _ _ st3 fun b _ o z => pushCells_keeps _ _ _ _ (Heap.get?_push_of_some _ z)
  generalize es4 : ({ s3 with heap := pushCells (s3.heap.push { cls := .type "dict", data := .dict #[] }) scope.names } : Shared) = s4 at I4 ⊢
  have h4 : s4.heap = pushCells (s3.heap.push { cls := .type "dict", data := .dict #[] }) scope.names := by rw [← es4]
  rw [← h4] at st4
  have foot : ∀ {τ : L2.St} {G : Hp} {s' : Shared}, L2.Inv (X.blk s3 H3 scope ce fp) [] τ G s' → (∀ b ∈ fp, G b = none) → ∀ b ∈ fp, FpOk (X.blk s3 H3 scope ce fp) [] G b := fun {τ G s'} K0 hn b m =>
    ⟨hn b m, (K0.ok.exf b m).1, K0.ok.exfs b m, .inl m, fun x c z => (K0.ok.exf b m).2 x c z, fun p hp => absurd (show p ∈ ([] : List (Addr × Obj)) ++ [] from hp) (by simp)⟩
  have loop : codeAny (model X.prog X.w) X.A (.compLoop (.SetComp elt [⟨tg, iter, ifs, 0⟩] scope pos) 0 (.ref it) (.ref D) ce) (compPost (model X.prog X.w) X.A X.xe none (EP X pins σ Q) (.ref D) s3.heap.objs.size) s4 := by
    refine PpSet.compLoopS_any (fun k s' => ∃ i G, L2.Inv (X.blk s3 H3 scope ce fp) [] (wipe σ (own.map (·.2))) G s' ∧ tn i s'.heap ∧ (∀ b ∈ fp, G b = none) ∧ W i k G) ?_ m0 ⟨0, H3, I4, st4, fun b m => (f3 b m).1.1, w0⟩
    rintro k s5 ⟨i, H5, I5, st5, n5, w5⟩
    rcases turn i k H5 w5 with ⟨stop, qq⟩ | ⟨go, Nx, back, step⟩
    · refine thnF (T.done (X.blk s3 H3 scope ce fp) rfl rfl rfl calm i [] s5 _ H5 (fun _ _ => False) I5 (foot I5 n5) st5 stop) fun r s6 ⟨er, I6⟩ => ?_
      subst er
      have I7 : L2.Inv X pins σ H5 s6 := I3.call' (ch := fp) I6.os I6.base I6.hok I6.bare fun b m => ⟨(f3 b m).1.2.2.2.1, (f3 b m).1.2.1, (f3 b m).1.2.2.2.2.1, (f3 b m).1.2.2.2.2.2⟩
      have nC : H5 s3.heap.objs.size = none := by
        have z : H5 ce.locals = none := I6.free
        rw [cL] at z
        exact z
      obtain ⟨mm, ns6, _⟩ := I6.loc
      have ns6 : s6.heap.Ns ce.locals mm := ns6
      rw [cL] at ns6
      obtain ⟨g0, g1, g2, g3, g4, g5⟩ : FpOk X pins H5 s3.heap.objs.size := I3.fpOk (Nat.le_refl _) nC
      exact ⟨mm, ns6, fun hh sb => ⟨.ref D, H5, I7.turned (t' := s6.toks) (fun b o hb z => (sb.2 b hb).trans z) g0 g1 g3 g4 g5, rfl, qq⟩⟩
    · refine thnF (T.item (X.blk s3 H3 scope ce fp) rfl rfl rfl calm i [] s5 _ H5 (fun _ _ => False) I5 (foot I5 n5) st5 go) fun r s6 ⟨u, er, z6⟩ => ?_
      subst er
      refine thnF z6 fun _ s7 ⟨x, H7, I7, r7, y7, st7, n7⟩ => ?_
      have I8 := I7.pinned (foot I7 n7) (T.obj _ _ st7)
      refine thnF (pg.run _ s7 _ H7 x u _ I8 r7 (step x H7 y7)) fun _ s8 ⟨σ8, H8, J8, hw8, q8⟩ => ?_
      refine thnF (pt.run _ s8 σ8 H8 _ J8 q8) fun b s9 ⟨H9, J9, q9⟩ => ?_
      have done : ∀ {s' : Shared} {G : Hp}, L2.Inv (X.blk s3 H3 scope ce fp) ([] ++ pinsAt fp s7.heap) σ8 G s' → Nx G → ∃ k', k' < k ∧ ∃ i G, L2.Inv (X.blk s3 H3 scope ce fp) [] (wipe σ (own.map (·.2))) G s' ∧ tn i s'.heap ∧ (∀ b ∈ fp, G b = none) ∧ W i k' G := fun {s' G} K0 nx => by
        obtain ⟨k', lt, w'⟩ := back G nx
        have kept : ∀ b ∈ fp, ∀ o, s7.heap.get? b = some o → s'.heap.get? b = some o ∧ G b = none := fun b m o z =>
          have pn := K0.pin (b, o) (List.mem_append_right _ (List.mem_append_right _ (mem_pinsAt m z)))
          ⟨pn.1, pn.2.1⟩
        have hl : (wipe σ (own.map (·.2))).length = σ8.length := by rw [← hw8, wipe_length]
        refine ⟨k', lt, i + 1, G, (K0.unpinned (pins := [])).weak hl (fun j v z => ?_), T.keep _ _ _ st7 fun b m o z => (kept b m o z).1, fun b m => ?_, w'⟩
        · rw [← hw8] at z
          exact (wipe_some z).1
        · obtain ⟨o, z, _⟩ := T.obj _ _ st7 b m
          exact (kept b m o z).2
      cases b with
      | false =>
        simp only [Bool.false_eq_true, if_false] at q9 ⊢
        exact done J9 q9
      | true =>
        simp only [if_true] at q9 ⊢
        refine thnF (pe.run _ s9 σ8 H9 _ J9 q9) fun z s10 ⟨yv, H10, J10, r10, c, S, n, ey, eD, room, nx⟩ => ?_
        subst ey
        obtain ⟨t, rfl⟩ := r10
        exact setTx_add (X := X.blk s3 H3 scope ce fp) J10 eD room fun s11 J11 => done J11 nx
  exact PpSet.codeAny_compStart_set loop (T.self X.A 0 _ _ _ st4 loop)
end
end EPL
-- part KB20
set_option maxHeartbeats 4000000
/-! B20: Ratio. -/
namespace EPL
open PySem PySem.Spec PyProof.Rows L2 L2H
section
variable {X : Cx}
/-- statements that are never reached -/
theorem pss_never {st : List Stmt} : PSs X st (fun _ _ _ => False) := ⟨fun _ _ _ _ _ _ h => h.elim⟩
end
/-- a class of instances with an own ==, as the head tells it -/
structure Ow (K : PySem.W.Frag) (mg : Str → Option Value) (x : Str) (fs : List Str) (fI fE : Addr) : Prop where
  g : mg x = some (.ref (He.ga K x))
  c : Cls K (He.ga K x)
  mkr : Mk K (He.ga K x) fI
  eq : Meth K (He.ga K x) "__eq__" fE
  no : ∀ f ∈ fs, NoAttr K (He.ga K x) f
  me : PySem.W.kitOne K (.ref (He.ga K x)) (.ref (He.ga K x)) = some true
  cl : PySem.W.findIn K (.ref (He.ga K x)) "__class__" = some (some (.builtin "object.__class__"))
  mo : PySem.W.mroIn K (He.ga K x) (.type "object") = some true
theorem Ow.ty {K : PySem.W.Frag} {mg : Str → Option Value} {x : Str} {fs : List Str} {fI fE : Addr} (W : Ow K mg x fs fI fE) {H : Hp} {a dx : Addr} {gs : List (Str × V)} (e : H a = some (.ins (He.ga K x) dx gs)) : TyX K H (.ref a) (.ref (He.ga K x)) :=
  .base (.ins e W.c W.cl (by kernel_rfl) (by kernel_rfl) W.mo)
section
variable {P : Program} {w : World} {K : PySem.W.Frag} {mg : Str → Option Value} {base : Heap}
abbrev aR (K : PySem.W.Frag) : Addr := He.ga K "Ratio"
abbrev MtT (K : PySem.W.Frag) (C m : Str) (i j : Nat) (dvs : List V) (f : Addr) (fd : FuncData) : Prop := FunD K m (C ++ ("." ++ m : Str)) (defArgs (inClass (top i) j)) (defBody (inClass (top i) j)) (defScope (inClass (top i) j)) dvs [] f fd
theorem kit_ii : PySem.W.kitOne K (.type "int") (.type "int") = some true := by kernel_rfl
theorem kit_ib : PySem.W.kitOne K (.type "int") (.type "bool") = some false := by kernel_rfl
/-! ### is_integer, is_number, parts_of_number -/
def spIsInt (K : PySem.W.Frag) (A : Around) : Sp := fun vs H Q _ => A.handled = none ∧ ((∃ i : Int, vs = [.int i] ∧ Q (.bl true) H) ∨ ∃ a dx fs, vs = [.ref a] ∧ H a = some (.ins (aR K) dx fs) ∧ Q (.bl false) H)
theorem sc_isint : FnScope ["value"] ["value"] (defScope (top 51)) := ⟨rfl, rfl, rfl, by decide +kernel, rfl, by decide +kernel, by decide +kernel⟩
theorem ok_isint {f fI fE : Addr} {fd : FuncData} (W : Ow K mg "Ratio" ["top", "bottom"] fI fE) (kRi : PySem.W.kitOne K (.ref (aR K)) (.type "int") = some false) (F : FnT K "is_integer" 51 f fd) (hmi : mg "isinstance" = none) (h1 : mg "int" = none) (h2 : mg "bool" = none) : FnN P w K mg base 1 f fd ["value"] (spIsInt K) := by
  refine fn_calm F sc_isint (fun A vs H Q E h => ?_) (fun A vs H Q E h => h.1) (fun cdv A outer s H vs Q E hr h => ?_)
  · rcases h.2 with ⟨i, rfl, _⟩ | ⟨a, dx, fs, rfl, _⟩ <;> rfl
  · refine ⟨_, pss_one (ps_ret (pe_and (pe_callB call_isi rfl hmi (by decide +kernel) (pa_cons (pv 0) (pa_cons (pe_bltn (v := .ty "int") rfl h1 (by decide +kernel) rfl) pa_nil)))
      (pe_one (pe_not (pe_callB call_isi rfl hmi (by decide +kernel) (pa_cons (pv 0) (pa_cons (pe_bltn (v := .ty "bool") rfl h2 (by decide +kernel) rfl) pa_nil))))))), ?_⟩
    rcases h.2 with ⟨i, rfl, q⟩ | ⟨a, dx, fs, rfl, e, q⟩
    · exact ⟨_, rfl, _, _, _, _, _, rfl, .ty "int", .base (.int i), kit_ii, true, rfl, iteT ⟨_, rfl, _, _, _, _, _, rfl, .ty "bool", .base (.int i), kit_ib, false, rfl, q⟩⟩
    · exact ⟨_, rfl, _, _, _, _, _, rfl, .ty "int", W.ty e, kRi, false, rfl, iteF q⟩
def spIsNum (K : PySem.W.Frag) (A : Around) : Sp := fun vs H Q _ => A.handled = none ∧ ∃ a dx fs, vs = [.ref a] ∧ H a = some (.ins (aR K) dx fs) ∧ Q (.bl true) H
theorem sc_isnum : FnScope ["value"] ["value"] (defScope (top 56)) := ⟨rfl, rfl, rfl, by decide +kernel, rfl, by decide +kernel, by decide +kernel⟩
theorem ok_isnum {f fI fE : Addr} {fd : FuncData} (W : Ow K mg "Ratio" ["top", "bottom"] fI fE) (F : FnT K "is_number" 56 f fd) (cI : Cal P w K mg base "is_integer" 1 ["value"] (spIsInt K)) (hmi : mg "isinstance" = none) : FnN P w K mg base 2 f fd ["value"] (spIsNum K) := by
  refine fn_calm F sc_isnum (fun A vs H Q E h => ?_) (fun A vs H Q E h => h.1) (fun cdv A outer s H vs Q E hr h => ?_)
  · obtain ⟨_, a, dx, fs, rfl, _⟩ := h
    rfl
  · obtain ⟨hA, a, dx, fs, rfl, e, q⟩ := h
    have h1 : RoomH 1 (A.deeper (envOfC "is_number" (defScope (top 56)) s.heap.objs.size f cdv)) := ⟨hr.dp, hr.un⟩
    refine ⟨_, pss_one (ps_ret (pe_or (pe_cal cI h1 rfl (pa_cons (pv 0) pa_nil)) (pe_one (pe_callB call_isi rfl hmi (by decide +kernel) (pa_cons (pv 0) (pa_cons (pe_glob (v := .ref (aR K)) rfl W.g rfl) pa_nil)))))), ?_⟩
    exact ⟨.ref a, rfl, hA, .inr ⟨a, dx, fs, rfl, e, false, rfl, iteF ⟨_, rfl, _, _, _, _, _, rfl, .own _, W.ty e, W.me, q⟩⟩⟩
/-- the instance's two numbers -/
def RatAt (K : PySem.W.Frag) (H : Hp) (a : Addr) (p q : Int) : Prop := ∃ dx fs, H a = some (.ins (aR K) dx fs) ∧ fs.lookup ("top" : Str) = some (V.int p) ∧ fs.lookup ("bottom" : Str) = some (V.int q)
def spParts (K : PySem.W.Frag) (A : Around) : Sp := fun vs H Q _ => A.handled = none ∧ ∃ a p q, vs = [.ref a] ∧ RatAt K H a p q ∧ ∀ t, H t = none → Q (.ref t) (upd H t (.tup [.int p, .int q]))
theorem sc_parts : FnScope ["number"] ["number"] (defScope (top 54)) := ⟨rfl, rfl, rfl, by decide +kernel, rfl, by decide +kernel, by decide +kernel⟩
theorem ok_parts {f fI fE : Addr} {fd : FuncData} (W : Ow K mg "Ratio" ["top", "bottom"] fI fE) (F : FnT K "parts_of_number" 54 f fd) (hmi : mg "isinstance" = none) : FnN P w K mg base 1 f fd ["number"] (spParts K) := by
  refine fn_calm F sc_parts (fun A vs H Q E h => ?_) (fun A vs H Q E h => h.1) (fun cdv A outer s H vs Q E hr h => ?_)
  · obtain ⟨_, a, p, q, rfl, _⟩ := h
    rfl
  · obtain ⟨hA, a, p, q, rfl, ⟨dx, fs, e, l1, l2⟩, z⟩ := h
    refine ⟨_, pss_cons (ps_if (pt_val (pe_callB call_isi rfl hmi (by decide +kernel) (pa_cons (pv 0) (pa_cons (pe_glob (v := .ref (aR K)) rfl W.g rfl) pa_nil))))
      (pss_one (ps_ret (pe_tup (pa_cons (pe_fld (pv 0) rfl) (pa_cons (pe_fld (pv 0) rfl) pa_nil))))) pss_nil) pss_never, ?_⟩
    refine ⟨_, rfl, _, _, _, _, _, rfl, .own _, W.ty e, W.me, true, rfl, iteT ?_⟩
    exact ⟨.ref a, rfl, a, _, dx, fs, _, rfl, e, W.c, W.no "top" (by decide +kernel), l1, .ref a, rfl, a, _, dx, fs, _, rfl, e, W.c, W.no "bottom" (by decide +kernel), l2, small (Nat.le_of_ble_eq_true rfl), fun t nt => z t nt⟩
/-! ### Ratio(p, q), its == -/
def spRat (K : PySem.W.Frag) : Sp := fun vs H Q _ => ∃ (a dx : Addr) (p q : Int), vs = [.ref a, .int p, .int q] ∧ 0 < q ∧ q < 1000 ∧ H a = some (.ins (aR K) dx []) ∧
  ∀ H', (∀ b o, b ≠ a → H b = some o → H' b = some o) → RatAt K H' a (p / ((Nat.gcd p.natAbs q.natAbs : Nat) : Int)) (q / ((Nat.gcd p.natAbs q.natAbs : Nat) : Int)) → Q .non H'
theorem sc_rat : FnScope ["self", "top", "bottom", "part", "shared"] ["self", "top", "bottom"] (defScope (inClass (top 55) 0)) := ⟨rfl, rfl, rfl, by decide +kernel, rfl, by decide +kernel, by decide +kernel⟩
theorem ok_rat {f fI fE : Addr} {fd : FuncData} (W : Ow K mg "Ratio" ["top", "bottom"] fI fE) (F : MtT K "Ratio" "__init__" 55 0 [.int 1] f fd) (cI : Cal P w K mg base "is_integer" 1 ["value"] (spIsInt K)) (hg : mg "gcd" = some (.builtin "math.gcd")) :
    FnOk P w K mg base CX0 2 f fd ["self", "top", "bottom"] (spRat K) := by
  refine FunD.ok F sc_rat (fun vs H Q E h => ?_) (fun cdv A outer s H vs Q E hr h => ?_)
  · obtain ⟨a, dx, p, q, rfl, _⟩ := h
    rfl
  · obtain ⟨a, dx, p, q, rfl, q0, q1, e, z⟩ := h
    have nd := sc_rat.nd
    have h1 : RoomH 1 (A.deeper (envOfC ("Ratio" ++ ("." ++ "__init__" : Str)) (defScope (inClass (top 55) 0)) s.heap.objs.size f cdv)) := ⟨hr.dp, hr.un⟩
    have hA : (A.deeper (envOfC ("Ratio" ++ ("." ++ "__init__" : Str)) (defScope (inClass (top 55) 0)) s.heap.objs.size f cdv)).handled = none := hr.hd
    refine ⟨_, PSs.nox (pss_cons (ps_for PassesOwn.never rfl (pi_list (pe_lst (pa_cons (pv 1) (pa_cons (pv 2) pa_nil)))) (pg_name (i := 3) nd rfl (by first | exact Or.inl rfl | exact Or.inr rfl))
        (pss_one (ps_if (pt_not (pt_val (pe_cal cI h1 rfl (pa_cons (pv 3) pa_nil)))) pss_never pss_nil)))
      (pss_cons (ps_if (pt_cmpR op_eq (pv 2) pe_int (nomark _)) pss_never pss_nil)
      (pss_cons (ps_set (i := 4) nd rfl (by first | exact Or.inl rfl | exact Or.inr rfl) (pe_callBfun cr_gcd rfl hg (pa_cons (pv 1) (pa_cons (pv 2) pa_nil))))
      (pss_cons (ps_if (pt_cmpR op_lt (pv 2) pe_int (nomark _)) pss_never pss_nil)
      (pss_cons (ps_fld (pv 0) (pe_op op_fdiv (pv 1) (pv 4)) rfl)
      (pss_one (ps_fld (pv 0) (pe_op op_fdiv (pv 2) (pv 4)) rfl))))))), ?_⟩
    refine ⟨.int p, rfl, .int q, rfl, small (Nat.le_of_ble_eq_true rfl), fun l nl => ⟨l, rfl, ⟨_, .inl (.inl upd_same)⟩, ?_⟩⟩
    have s1 : Same H (upd H l (.lst [.int p, .int q])) := same_upd nl
    have hl : upd H l (.lst [.int p, .int q]) l = some (.lst [.int p, .int q]) := upd_same
    generalize upd H l (.lst [.int p, .int q]) = H1 at s1 hl ⊢
    refine for_list (xs := [.int p, .int q]) (fun i σ G => (∃ o3 o4, σ = [some (.ref a), some (.int p), some (.int q), o3, o4]) ∧ Same H1 G) ⟨⟨none, none, rfl⟩, Same.refl _⟩ (fun i σ G _ hP => .inl (.inl (hP.2 _ _ hl))) (fun i x σ G hx hP => ?_) (fun σ G hP => ?_)
    · obtain ⟨⟨o3, o4, rfl⟩, sG⟩ := hP
      obtain ⟨y, rfl⟩ : ∃ y : Int, x = .int y := by
        have m := List.mem_of_getElem? hx
        simp only [List.mem_cons, List.not_mem_nil, or_false] at m
        rcases m with m | m
        · exact ⟨p, m⟩
        · exact ⟨q, m⟩
      exact ⟨.int y, rfl, hA, .inl ⟨y, rfl, true, rfl, iteF ⟨⟨_, _, rfl⟩, sG⟩⟩⟩
    · obtain ⟨⟨o3, o4, rfl⟩, sG⟩ := hP
      have g0 : (0 : Int) < ((Nat.gcd p.natAbs q.natAbs : Nat) : Int) := by
        have := Nat.gcd_pos_of_pos_right p.natAbs (show 0 < q.natAbs by omega)
        omega
      have g1 : ((Nat.gcd p.natAbs q.natAbs : Nat) : Int) < 1073741824 := by
        have := Nat.le_of_dvd (show 0 < q.natAbs by omega) (Nat.gcd_dvd_right p.natAbs q.natAbs)
        omega
      have hg2 : z = z := rfl
      refine test_eq rfl (if_dec (fun y => absurd y (by omega)) fun _ => ?_)
      refine ⟨.int p, rfl, .int q, rfl, p, q, rfl, ?_⟩
      show tSeq _ _ _ [some (.ref a), some (.int p), some (.int q), o3, some (.int ((Nat.gcd p.natAbs q.natAbs : Nat) : Int))] G
      generalize hgg : ((Nat.gcd p.natAbs q.natAbs : Nat) : Int) = g at *
      refine ⟨.int q, rfl, q, 0, rfl, rfl, _, rfl, if_dec (fun y => absurd y (by omega)) fun _ => ?_⟩
      refine ⟨.int p, rfl, .int g, rfl, p, g, rfl, rfl, ⟨g0, g1⟩, .ref a, rfl, a, _, dx, [], rfl, sG _ _ (s1 _ _ e), W.c, W.no "top" (by decide +kernel), by decide, ?_⟩
      refine ⟨.int q, rfl, .int g, rfl, q, g, rfl, rfl, ⟨g0, g1⟩, .ref a, rfl, a, _, dx, _, rfl, upd_same, W.c, W.no "bottom" (by decide +kernel), Nat.le_of_ble_eq_true rfl, ?_⟩
      refine z _ (fun b o nb hb => by rw [upd_ne nb, upd_ne nb]; exact sG _ _ (s1 _ _ hb)) ⟨dx, _, upd_same, ?_, ?_⟩
      · rfl
      · rfl
/-- both are the same number -/
def ReqR (K : PySem.W.Frag) (a b : Addr) (H : Hp) : Prop := ∃ p q, RatAt K H a p q ∧ RatAt K H b p q
theorem rat_ext {H H' : Hp} {a : Addr} {p q : Int} (e : Ext H H') (h : RatAt K H a p q) : RatAt K H' a p q := by
  obtain ⟨dx, fs, h1, h2⟩ := h
  exact ⟨dx, fs, e _ _ h1, h2⟩
theorem sc_req : FnScope ["self", "other"] ["self", "other"] (defScope (inClass (top 55) 8)) := ⟨rfl, rfl, rfl, by decide +kernel, rfl, by decide +kernel, by decide +kernel⟩
theorem ok_req {f fI fE : Addr} {fd : FuncData} (W : Ow K mg "Ratio" ["top", "bottom"] fI fE) (F : MtT K "Ratio" "__eq__" 55 8 [] f fd) (cN : Cal P w K mg base "is_number" 2 ["value"] (spIsNum K)) (cP : Cal P w K mg base "parts_of_number" 1 ["number"] (spParts K)) :
    FnOk P w K mg base CX0 3 f fd ["self", "other"] (spEq (ReqR K)) := by
  refine FunD.ok F sc_req (fun vs H Q E h => ?_) (fun cdv A outer s H vs Q E hr h => ?_)
  · obtain ⟨a, b, rfl, _⟩ := h
    rfl
  · obtain ⟨a, b, rfl, ⟨p, q, ha, hb⟩, z⟩ := h
    have h2 : RoomH 2 (A.deeper (envOfC ("Ratio" ++ ("." ++ "__eq__" : Str)) (defScope (inClass (top 55) 8)) s.heap.objs.size f cdv)) := ⟨hr.dp, hr.un⟩
    have h1 := h2.mono (show 1 ≤ 2 by decide)
    have hA : (A.deeper (envOfC ("Ratio" ++ ("." ++ "__eq__" : Str)) (defScope (inClass (top 55) 8)) s.heap.objs.size f cdv)).handled = none := hr.hd
    have hu : (A.deeper (envOfC ("Ratio" ++ ("." ++ "__eq__" : Str)) (defScope (inClass (top 55) 8)) s.heap.objs.size f cdv)).units + 64 < cLine := hr.units
    refine ⟨_, PSs.nox (pss_cons (ps_if (pt_not (pt_val (pe_cal cN h2 rfl (pa_cons (pv 1) pa_nil)))) pss_never pss_nil)
      (pss_one (ps_ret (pe_cmpR (op_eqD hu) (pe_tup (pa_cons (pe_fld (pv 0) rfl) (pa_cons (pe_fld (pv 0) rfl) pa_nil))) (pe_cal cP h1 rfl (pa_cons (pv 1) pa_nil)) (nomark _))))), ?_⟩
    obtain ⟨dx, fs, e1, l1, l2⟩ := ha
    obtain ⟨dy, gs, e2, m1, m2⟩ := hb
    refine ⟨.ref b, rfl, hA, b, dy, gs, rfl, e2, true, rfl, iteF ?_⟩
    refine ⟨.ref a, rfl, a, _, dx, fs, _, rfl, e1, W.c, W.no "top" (by decide +kernel), l1, .ref a, rfl, a, _, dx, fs, _, rfl, e1, W.c, W.no "bottom" (by decide +kernel), l2, small (Nat.le_of_ble_eq_true rfl), fun t nt => ?_⟩
    refine ⟨.ref b, rfl, hA, b, p, q, rfl, ⟨dy, gs, same_upd nt _ _ e2, m1, m2⟩, fun u nu => ?_⟩
    have st : Same (upd H t (.tup [.int p, .int q])) (upd (upd H t (.tup [.int p, .int q])) u (.tup [.int p, .int q])) := same_upd nu
    refine ⟨.tuple [.int p, .int q], .tuple [.int p, .int q], .tup (.inl (.inl (st _ _ upd_same))) (.cons (.int _) (.cons (.int _) .nil)), .tup (.inl (.inl upd_same)) (.cons (.int _) (.cons (.int _) .nil)), by kernel_rfl, by kernel_rfl, ?_⟩
    have e : PyData.eqv (.tuple [.int p, .int q]) (.tuple [.int p, .int q]) = true := by simp [PyData.eqv, PyData.eqvAll]
    rw [e]
    exact z _ ((same_upd nt).trans st)
end
end EPL
-- part KB21
set_option maxHeartbeats 4000000
/-! B21: words, names. -/
namespace EPL
open PySem PySem.Spec PyProof.Rows L2 L2H
section
variable {P : Program} {w : World} {K : PySem.W.Frag} {mg : Str → Option Value} {base : Heap}
theorem kit_ll : PySem.W.kitAny K (.type "list") [.type "list", .type "tuple"] = some true := by kernel_rfl
theorem kit_ss : PySem.W.kitOne K (.type "str") (.type "str") = some true := by kernel_rfl
theorem kit_tt : PySem.W.kitOne K (.type "tuple") (.type "tuple") = some true := by kernel_rfl
/-! ### is_list, product_of -/
def spIsList (A : Around) : Sp := fun vs H Q _ => A.handled = none ∧ ∃ a xs, vs = [.ref a] ∧ H a = some (.lst xs) ∧ ∀ H', Same H H' → Q (.bl true) H'
theorem sc_islist : FnScope ["value"] ["value"] (defScope (top 50)) := ⟨rfl, rfl, rfl, by decide +kernel, rfl, by decide +kernel, by decide +kernel⟩
theorem ok_islist {f : Addr} {fd : FuncData} (F : FnT K "is_list" 50 f fd) (hmi : mg "isinstance" = none) (h1 : mg "list" = none) (h2 : mg "tuple" = none) : FnN P w K mg base 1 f fd ["value"] spIsList := by
  refine fn_calm F sc_islist (fun A vs H Q E h => ?_) (fun A vs H Q E h => h.1) (fun cdv A outer s H vs Q E hr h => ?_)
  · obtain ⟨_, a, xs, rfl, _⟩ := h
    rfl
  · obtain ⟨hA, a, xs, rfl, e, q⟩ := h
    refine ⟨_, pss_one (ps_ret (pe_callB call_isiT rfl hmi (by decide +kernel) (pa_cons (pv 0) (pa_cons (pe_tup (pa_cons (pe_bltn (v := .ty "list") rfl h1 (by decide +kernel) rfl) (pa_cons (pe_bltn (v := .ty "tuple") rfl h2 (by decide +kernel) rfl) pa_nil))) pa_nil)))), ?_⟩
    refine ⟨_, rfl, small (Nat.le_of_ble_eq_true rfl), fun p np => ?_⟩
    exact ⟨_, p, _, .type "list", _, true, rfl, upd_same, .cons (.ty "list") (.cons (.ty "tuple") .nil), .base (.lst (same_upd np _ _ e)), kit_ll, q _ (same_upd np)⟩
def spProd (K : PySem.W.Frag) (A : Around) : Sp := fun vs H Q _ => A.handled = none ∧ ∃ a, vs = [.ref a] ∧ H a = some (.lst [.int 2, .int 3]) ∧ Q (.int 6) H
theorem sc_prod : FnScope ["numbers", "found", "number"] ["numbers"] (defScope (top 52)) := ⟨rfl, rfl, rfl, by decide +kernel, rfl, by decide +kernel, by decide +kernel⟩
theorem ok_prod {f : Addr} {fd : FuncData} (F : FnT K "product_of" 52 f fd) : FnN P w K mg base 1 f fd ["numbers"] (spProd K) := by
  refine fn_calm F sc_prod (fun A vs H Q E h => ?_) (fun A vs H Q E h => h.1) (fun cdv A outer s H vs Q E hr h => ?_)
  · obtain ⟨_, a, rfl, _⟩ := h
    rfl
  · obtain ⟨hA, a, rfl, e, q⟩ := h
    have nd := sc_prod.nd
    refine ⟨_, pss_cons (ps_set (i := 1) nd rfl (by first | exact Or.inl rfl | exact Or.inr rfl) pe_int)
      (pss_cons (ps_for PassesOwn.never rfl (pi_list (pv 0)) (pg_name (i := 2) nd rfl (by first | exact Or.inl rfl | exact Or.inr rfl)) (pss_one (ps_set (i := 1) nd rfl (by first | exact Or.inl rfl | exact Or.inr rfl) (pe_op op_mul (pv 1) (pv 2)))))
      (pss_one (ps_ret (pv 1)))), ?_⟩
    refine ⟨.ref a, rfl, a, rfl, ⟨_, .inl (.inl e)⟩, ?_⟩
    refine for_list (xs := [.int 2, .int 3]) (fun i σ G => G = H ∧ ∃ o2, (i = 0 ∧ σ = [some (.ref a), some (.int 1), o2]) ∨ (i = 1 ∧ σ = [some (.ref a), some (.int 2), o2]) ∨ (i = 2 ∧ σ = [some (.ref a), some (.int 6), o2])) ⟨rfl, none, .inl ⟨rfl, rfl⟩⟩ (fun i σ G _ hP => .inl (.inl (hP.1 ▸ e))) (fun i x σ G hx hP => ?_) (fun σ G hP => ?_)
    · obtain ⟨rfl, o2, ⟨rfl, rfl⟩ | ⟨rfl, rfl⟩ | ⟨rfl, rfl⟩⟩ := hP
      · cases hx
        exact ⟨_, rfl, _, rfl, 1, 2, rfl, rfl, .inl (by decide), rfl, _, .inr (.inl ⟨rfl, rfl⟩)⟩
      · cases hx
        exact ⟨_, rfl, _, rfl, 2, 3, rfl, rfl, .inl (by decide), rfl, _, .inr (.inr ⟨rfl, rfl⟩)⟩
      · cases hx
    · obtain ⟨rfl, o2, ⟨i0, rfl⟩ | ⟨i0, rfl⟩ | ⟨i0, rfl⟩⟩ := hP
      · cases i0
      · cases i0
      · exact ⟨_, rfl, q⟩
/-! ### is_word -/
def lettersS : Str := "abcdefghijklmnopqrstuvwxyz"
def wordsA : List Str := ["and", "by", "call", "choose", "draw", "else", "if", "name", "net", "not", "or"]
def wordsB : List Str := ["parties", "set", "spin", "unit", "while", "yes"]
/-- what the head says of the names -/
structure Nw (K : PySem.W.Frag) (mg : Str → Option Value) : Prop where
  let_ : ∃ t, mg "LETTERS" = some (.str lettersS t)
  ml : ∃ t, mg "MOST_LETTERS" = some (.int 8 t)
  mn : ∃ t, mg "MOST_NAMES" = some (.int 2 t)
  ls : ∃ t, mg "LEAST_SIZE" = some (.int 2 t)
  ms : ∃ t, mg "MOST_SIZE" = some (.int 6 t)
  mst : ∃ t, mg "MOST_STORES" = some (.int 6 t)
  wa : mg "WORDS" = some (.ref (He.ga K "WORDS"))
  wb : mg "MORE_WORDS" = some (.ref (He.ga K "MORE_WORDS"))
  ta : ∀ H, SqT K H (He.ga K "WORDS") (wordsA.map V.str)
  tb : ∀ H, SqT K H (He.ga K "MORE_WORDS") (wordsB.map V.str)
/-- a word that is one -/
def Wrd (x : Str) : Prop := x = "hp" ∨ x = "gold"
theorem wrd_len {x : Str} (h : Wrd x) : 1 ≤ x.length ∧ x.length ≤ 8 := by
  rcases h with rfl | rfl <;> decide +kernel
theorem wrd_a {x : Str} (h : Wrd x) : inV (.str x) (wordsA.map V.str) = false := by
  rcases h with rfl | rfl <;> decide +kernel
theorem wrd_b {x : Str} (h : Wrd x) : inV (.str x) (wordsB.map V.str) = false := by
  rcases h with rfl | rfl <;> decide +kernel
theorem wrd_c {x : Str} (h : Wrd x) : x.cps.toList.all (fun c => !(Builtin.Str.occurrences lettersS ⟨#[c]⟩ 0 lettersS.length 1).isEmpty) = true := by
  rcases h with rfl | rfl <;> decide +kernel
theorem wrd_sz {x : Str} (h : Wrd x) : x.cps.size ≤ 8 := by
  rcases h with rfl | rfl <;> decide +kernel
def spWord (K : PySem.W.Frag) (A : Around) : Sp := fun vs H Q _ => A.handled = none ∧ ∃ x, vs = [.str x] ∧ Wrd x ∧ ∀ H', Same H H' → Q (.bl true) H'
theorem sc_word : FnScope ["value", "sign"] ["value"] (defScope (top 66)) := ⟨rfl, rfl, rfl, by decide +kernel, rfl, by decide +kernel, by decide +kernel⟩
theorem blk_word : BlkOk ["value", "sign"] (defScope (top 66)) { kind := .function, names := [(".0", .local), ("sign", .local), ("LETTERS", .globalImplicit)], isGenerator := false, isCoroutine := false } [("sign", 1)] :=
  ⟨rfl, by decide +kernel, by decide +kernel, by decide +kernel, by decide +kernel⟩
theorem ok_word {f : Addr} {fd : FuncData} (W : Nw K mg) (F : FnT K "is_word" 66 f fd) (hmi : mg "isinstance" = none) (hs : mg "str" = none) (hml : mg "len" = none) (hma : mg "all" = none) : FnN P w K mg base 1 f fd ["value"] (spWord K) := by
  refine fn_calm F sc_word (fun A vs H Q E h => ?_) (fun A vs H Q E h => h.1) (fun cdv A outer s H vs Q E hr h => ?_)
  · obtain ⟨_, x, rfl, _⟩ := h
    rfl
  · obtain ⟨hA, x, rfl, hx, q⟩ := h
    have nd := sc_word.nd
    obtain ⟨t1, gl⟩ := W.let_
    obtain ⟨t2, gm⟩ := W.ml
    refine ⟨_, pss_cons (ps_if (PW.pt (pw_or (pt_not (pt_val (pe_callB call_isi rfl hmi (by decide +kernel) (pa_cons (pv 0) (pa_cons (pe_bltn (v := .ty "str") rfl hs (by decide +kernel) rfl) pa_nil)))))
        (pw_or1 (pt_not (pt_chain op_le op_le pe_int (pe_callB call_len rfl hml boot_len (pa_cons (pv 0) pa_nil)) (pe_glob (v := .int 8) rfl gm ⟨_, rfl⟩)))))) pss_never pss_nil)
      (pss_one (ps_ret (pe_and (pe_cmpR op_notIn_seq (pv 0) (pe_glob (v := .ref (He.ga K "WORDS")) rfl W.wa rfl) rfl) (pe_and (pe_cmpR op_notIn_seq (pv 0) (pe_glob (v := .ref (He.ga K "MORE_WORDS")) rfl W.wb rfl) rfl)
        (pe_one (pe_callB (cr_all rfl) rfl hma (by decide +kernel) (pa_cons (pe_lc rfl nd (pi_str (pv 0)) blk_word (fun _ _ _ _ _ => pg_name (i := 1) nd rfl (by first | exact Or.inl rfl | exact Or.inr rfl)) (fun _ _ _ _ _ => pts_nil)
          (te := tOp (fun x y H Q => ∃ i j, x = .str i ∧ y = .str j ∧ Q (.bl (!(Builtin.Str.occurrences j i 0 j.length 1).isEmpty)) H) (tVar 1) (tC (.str lettersS))) (fun _ _ _ _ _ => pe_cmpR op_in_str (pv 1) (pe_glob (v := .str lettersS) rfl gl ⟨_, rfl⟩) rfl)) pa_nil))))))), ?_⟩
    obtain ⟨l1, l2⟩ := wrd_len hx
    refine ⟨_, rfl, _, _, _, _, _, rfl, .ty "str", .base (.str x), kit_ss, true, rfl, iteF ?_⟩
    refine ⟨_, rfl, .str x, x.length, rfl, ⟨small (by omega), rfl⟩, _, _, rfl, rfl, _, rfl, if_dec (fun _ => ⟨_, _, rfl, rfl, _, rfl, ?_⟩) (fun y => absurd y (by omega))⟩
    rw [decide_eq_true (show ((x.length : Nat) : Int) ≤ 8 by omega)]
    refine iteF ?_
    refine ⟨.str x, rfl, _, _, rfl, .inr (W.ta _), rfl, by decide +kernel, true, ?_, iteT ?_⟩
    · rw [if_pos rfl, wrd_a hx]
      rfl
    refine ⟨.str x, rfl, _, _, rfl, .inr (W.tb _), rfl, by decide +kernel, true, ?_, iteT ?_⟩
    · rw [if_pos rfl, wrd_b hx]
      rfl
    refine ⟨.str x, rfl, x, rfl, fun D nD => ?_⟩
    have hall := List.all_eq_true.mp (wrd_c hx)
    refine ⟨fun i m G => m = x.cps.size - i ∧ i ≤ x.cps.size ∧ Same H (del G D) ∧ G D = some (.lst ((List.replicate i true).map V.bl)), ⟨_, rfl, Nat.zero_le _, fun b o z => ?_, upd_same⟩, ?_⟩
    · rw [del_other (ne_of_none z nD)]
      exact same_upd nD _ _ z
    · rintro i m G ⟨rfl, hi, sG, eD⟩
      by_cases hlt : i < x.cps.size
      · refine .inr ⟨hlt, fun G' => i + 1 ≤ x.cps.size ∧ Same H (del G' D) ∧ G' D = some (.lst ((List.replicate (i + 1) true).map V.bl)), fun G' z => ⟨_, (by omega), rfl, z⟩, fun y G' hy => ?_⟩
        obtain ⟨rfl, c, hc, rfl⟩ := hy
        have hin : (!(Builtin.Str.occurrences lettersS ⟨#[c]⟩ 0 lettersS.length 1).isEmpty) = true := hall c (by
          have m := Array.mem_of_getElem? hc
          exact Array.mem_toList_iff.mpr m)
        refine ⟨rfl, _, rfl, _, _, rfl, rfl, _, eD, ?_, hlt, ?_, ?_⟩
        · rw [List.length_map, List.length_replicate]
          have := wrd_sz hx
          exact small1000 (by omega)
        · rw [del_upd]
          exact sG
        · rw [upd_same, hin, List.replicate_succ', List.map_append]
          rfl
      · have e : i = x.cps.size := by omega
        subst e
        refine .inl ⟨Nat.le_refl _, D, _, rfl, .inl (.inl eD), ?_⟩
        have e2 : (List.replicate x.cps.size true).all id = true := by
          rw [List.all_eq_true]
          intro b hb
          rw [List.eq_of_mem_replicate hb]
          rfl
        rw [e2]
        exact q _ (sG.trans del_sub)
end
end EPL
-- part KB22
set_option maxHeartbeats 4000000
/-! B22: names with sizes, Space. -/
namespace EPL
open PySem PySem.Spec PyProof.Rows L2 L2H
section
variable {P : Program} {w : World} {K : PySem.W.Frag} {mg : Str → Option Value} {base : Heap}
/-! ### is_name -/
def spName (K : PySem.W.Frag) (A : Around) : Sp := fun vs H Q _ => A.handled = none ∧ ∃ (t : Addr) (x : Str) (n : Int), vs = [.ref t] ∧ H t = some (.tup [.str x, .int n]) ∧ Wrd x ∧ 2 ≤ n ∧ n ≤ 6 ∧ ∀ H', Same H H' → Q (.bl true) H'
theorem sc_isname : FnScope ["value"] ["value"] (defScope (top 67)) := ⟨rfl, rfl, rfl, by decide +kernel, rfl, by decide +kernel, by decide +kernel⟩
theorem ok_isname {f : Addr} {fd : FuncData} (W : Nw K mg) (F : FnT K "is_name" 67 f fd) (cW : Cal P w K mg base "is_word" 1 ["value"] (spWord K)) (cI : Cal P w K mg base "is_integer" 1 ["value"] (spIsInt K)) (hmi : mg "isinstance" = none) (ht : mg "tuple" = none) (hml : mg "len" = none) :
    FnN P w K mg base 2 f fd ["value"] (spName K) := by
  refine fn_calm F sc_isname (fun A vs H Q E h => ?_) (fun A vs H Q E h => h.1) (fun cdv A outer s H vs Q E hr h => ?_)
  · obtain ⟨_, t, x, n, rfl, _⟩ := h
    rfl
  · obtain ⟨hA, t, x, n, rfl, e, hx, n2, n6, q⟩ := h
    have h1 : RoomH 1 (A.deeper (envOfC "is_name" (defScope (top 67)) s.heap.objs.size f cdv)) := ⟨hr.dp, hr.un⟩
    obtain ⟨t1, g1⟩ := W.ls
    obtain ⟨t2, g2⟩ := W.ms
    refine ⟨_, pss_cons (ps_if (PW.pt (pw_or (pt_not (pt_val (pe_callB call_isi rfl hmi (by decide +kernel) (pa_cons (pv 0) (pa_cons (pe_bltn (v := .ty "tuple") rfl ht (by decide +kernel) rfl) pa_nil)))))
        (pw_or1 (pt_cmpR op_ne (pe_callB call_len_seq rfl hml boot_len (pa_cons (pv 0) pa_nil)) pe_int (nomark _))))) pss_never pss_nil)
      (pss_one (ps_ret (pe_and (pe_cal cW h1 rfl (pa_cons (pe_ix (r := rIxT K) ix_tup (pv 0) pe_int fun _ _ => rfl) pa_nil)) (pe_and (pe_cal cI h1 rfl (pa_cons (pe_ix (r := rIxT K) ix_tup (pv 0) pe_int fun _ _ => rfl) pa_nil))
        (pe_one (pe_chain op_le op_le (pe_glob (v := .int 2) rfl g1 ⟨_, rfl⟩) (pe_ix (r := rIxT K) ix_tup (pv 0) pe_int fun _ _ => rfl) (pe_glob (v := .int 6) rfl g2 ⟨_, rfl⟩))))))), ?_⟩
    have hS : ∀ {G : Hp}, Same H G → SqT K G t [.str x, .int n] := fun {G} z => .inl (.inl (z _ _ e))
    refine ⟨_, rfl, _, _, _, _, _, rfl, .ty "tuple", .base (.tup e), kit_tt, true, rfl, iteF ?_⟩
    refine ⟨_, rfl, t, _, rfl, .inr (hS (Same.refl _)), rfl, _, rfl, iteF ?_⟩
    refine ⟨_, rfl, t, _, _, _, rfl, rfl, hS (Same.refl _), rfl, hA, x, rfl, hx, fun H1 s1 => ⟨true, rfl, iteT ?_⟩⟩
    refine ⟨_, rfl, t, _, _, _, rfl, rfl, hS s1, rfl, hA, .inl ⟨n, rfl, true, rfl, iteT ?_⟩⟩
    refine ⟨_, rfl, t, _, _, _, rfl, rfl, hS s1, rfl, _, _, rfl, rfl, _, rfl, if_dec (fun _ => ⟨_, _, rfl, rfl, ?_⟩) fun y => absurd n2 y⟩
    show Q (.bl (decide (n ≤ 6))) H1
    rw [decide_eq_true n6]
    exact q _ s1
/-! ### are_names -/
/-- the list of the law's two names -/
def TwoN (K : PySem.W.Frag) (H : Hp) (l : Addr) : Prop := ∃ t1 t2, H l = some (.lst [.ref t1, .ref t2]) ∧ H t1 = some (.tup [.str "hp", .int 2]) ∧ H t2 = some (.tup [.str "gold", .int 3])
theorem TwoN.same {H H' : Hp} {l : Addr} (h : TwoN K H l) (s : Same H H') : TwoN K H' l := by
  obtain ⟨t1, t2, a, b, c⟩ := h
  exact ⟨t1, t2, s _ _ a, s _ _ b, s _ _ c⟩
def spAre (K : PySem.W.Frag) (A : Around) : Sp := fun vs H Q _ => A.handled = none ∧ ∃ l, vs = [.ref l] ∧ TwoN K H l ∧ ∀ H', Same H H' → Q (.bl true) H'
theorem sc_are : FnScope ["value", "item", "name", "_", "size"] ["value"] (defScope (top 68)) := ⟨rfl, rfl, rfl, by decide +kernel, rfl, by decide +kernel, by decide +kernel⟩
theorem ok_are {f : Addr} {fd : FuncData} (W : Nw K mg) (F : FnT K "are_names" 68 f fd) (cL : Cal P w K mg base "is_list" 1 ["value"] spIsList) (cN : Cal P w K mg base "is_name" 2 ["value"] (spName K)) (cP : Cal P w K mg base "product_of" 1 ["numbers"] (spProd K))
    (hml : mg "len" = none) (hma : mg "all" = none) : FnN P w K mg base 3 f fd ["value"] (spAre K) := by
  refine fn_calm F sc_are (fun A vs H Q E h => ?_) (fun A vs H Q E h => h.1) (fun cdv A outer s H vs Q E hr h => ?_)
  · obtain ⟨_, l, rfl, _⟩ := h
    rfl
  · obtain ⟨hA, l, rfl, hT, q⟩ := h
    have nd := sc_are.nd
    have h2 : RoomH 2 (A.deeper (envOfC "are_names" (defScope (top 68)) s.heap.objs.size f cdv)) := ⟨hr.dp, hr.un⟩
    have h1 := h2.mono (show 1 ≤ 2 by decide)
    obtain ⟨t1, g1⟩ := W.mn
    obtain ⟨t2, g2⟩ := W.mst
    refine ⟨_, pss_cons (ps_if (PW.pt (pw_or (pt_not (pt_val (pe_cal cL h1 rfl (pa_cons (pv 0) pa_nil)))) (pw_or (pt_not (pt_chain op_le op_le pe_int (pe_callB call_len_seq rfl hml boot_len (pa_cons (pv 0) pa_nil)) (pe_glob (v := .int 2) rfl g1 ⟨_, rfl⟩)))
        (pw_or1 (pt_not (pt_val (pe_callB (cr_all rfl) rfl hma (by decide +kernel) (pa_cons (pe_lc (own := [("item", 1)]) rfl nd (pi_list (pv 0)) (blkOk_by (N := ["value", "item", "name", "_", "size"]) (sc := defScope (top 68)) (by decide +kernel)) (fun _ _ _ _ _ => pg_name (i := 1) nd rfl (by first | exact Or.inl rfl | exact Or.inr rfl)) (fun _ _ _ _ _ => pts_nil)
          (te := tCallN (spName K (A.deeper (envOfC "are_names" (defScope (top 68)) s.heap.objs.size f cdv))) (tCons (tVar 1) tNil)) (fun _ _ _ _ _ => pe_cal cN h2 rfl (pa_cons (pv 1) pa_nil))) pa_nil)))))))) pss_never pss_nil)
      (pss_cons (ps_if (pt_cmpR op_ne (pe_callB call_lenTx rfl hml boot_len (pa_cons (pe_scT (own := [("name", 2), ("_", 3)]) rfl nd (pi_list (pv 0)) (blkOk_by (N := ["value", "item", "name", "_", "size"]) (sc := defScope (top 68)) (by decide +kernel))
          (g := gTup K 2 (gCons (gName 2) (gCons (gName 3) gNil))) (fun _ _ _ _ _ => pg_tup rfl (pgs_cons (pg_name (i := 2) nd rfl (by first | exact Or.inl rfl | exact Or.inr rfl)) (pgs_cons (pg_name (i := 3) nd rfl (by first | exact Or.inl rfl | exact Or.inr rfl)) pgs_nil))) (fun _ _ _ _ _ => pts_nil) (fun _ _ _ _ _ => pv 2)) pa_nil))
          (pe_callB call_len_seq rfl hml boot_len (pa_cons (pv 0) pa_nil)) (nomark _)) pss_never pss_nil)
      (pss_one (ps_ret (pe_cmpR op_le (pe_cal cP h1 rfl (pa_cons (pe_lc (own := [("_", 3), ("size", 4)]) rfl nd (pi_list (pv 0)) (blkOk_by (N := ["value", "item", "name", "_", "size"]) (sc := defScope (top 68)) (by decide +kernel))
          (g := gTup K 2 (gCons (gName 3) (gCons (gName 4) gNil))) (fun _ _ _ _ _ => pg_tup rfl (pgs_cons (pg_name (i := 3) nd rfl (by first | exact Or.inl rfl | exact Or.inr rfl)) (pgs_cons (pg_name (i := 4) nd rfl (by first | exact Or.inl rfl | exact Or.inr rfl)) pgs_nil))) (fun _ _ _ _ _ => pts_nil) (fun _ _ _ _ _ => pv 4)) pa_nil)) (pe_glob (v := .int 6) rfl g2 ⟨_, rfl⟩) (nomark _))))), ?_⟩
    obtain ⟨u1, u2, e0, e1, e2⟩ := hT
    have hS : ∀ {G : Hp}, Same H G → SqL K G l [.ref u1, .ref u2] := fun {G} z => .inl (.inl (z _ _ e0))
    refine ⟨.ref l, rfl, hA, l, _, rfl, e0, fun H1 s1 => ⟨true, rfl, iteF ?_⟩⟩
    refine ⟨_, rfl, l, _, rfl, .inl (hS s1), _, _, rfl, rfl, _, rfl, if_dec (fun _ => ⟨_, _, rfl, rfl, _, rfl, iteF ?_⟩) fun y => absurd (show (1 : Int) ≤ ((2 : Nat) : Int) by decide) y⟩
    refine ⟨_, rfl, l, rfl, ⟨_, hS s1⟩, fun D nD => ?_⟩
    have into : ∀ {G : Hp} {D : Addr} {B : Hp}, B D = none → Same B G → Same B (del G D) := fun {G D B} n z a o y => by
      rw [del_other (ne_of_none y n)]
      exact z _ _ y
    refine lc_list (xs := [.ref u1, .ref u2]) (fun i G => Same H1 (del G D) ∧ G D = some (.lst ((List.replicate i true).map V.bl))) ⟨into nD (same_upd nD), upd_same⟩ (fun i G _ hP => hS (s1.trans (hP.1.trans del_sub))) (fun i x G hx hP => ?_) (fun G hP => ?_)
    · obtain ⟨sG, eD⟩ := hP
      obtain ⟨u, y, n, rfl, eu, hy, n2, n6, hi⟩ : ∃ (u : Addr) (y : Str) (n : Int), x = .ref u ∧ G u = some (.tup [.str y, .int n]) ∧ Wrd y ∧ 2 ≤ n ∧ n ≤ 6 ∧ i < 2 := by
        match i, hx with
        | 0, hx => exact ⟨u1, _, _, (Option.some.inj hx).symm, del_sub _ _ (sG _ _ (s1 _ _ e1)), .inl rfl, by decide, by decide, by decide⟩
        | 1, hx => exact ⟨u2, _, _, (Option.some.inj hx).symm, del_sub _ _ (sG _ _ (s1 _ _ e2)), .inr rfl, by decide, by decide, by decide⟩
      refine ⟨rfl, _, rfl, hA, u, y, n, rfl, eu, hy, n2, n6, fun G2 s2 => ⟨_, s2 _ _ eD, ?_, ?_, ?_⟩⟩
      · rw [List.length_map, List.length_replicate]
        exact small1000 (by omega)
      · rw [del_upd]
        exact sG.trans (del_grow s2)
      · rw [upd_same, List.replicate_succ', List.map_append]
        rfl
    · obtain ⟨sG, eD⟩ := hP
      refine ⟨D, [true, true], rfl, .inl (.inl eD), true, rfl, iteF ?_⟩
      have s2 : Same H G := s1.trans (sG.trans del_sub)
      -- the set of the names
      refine ⟨_, rfl, l, rfl, ⟨_, hS s2⟩, fun D2 nD2 => ?_⟩
      refine ⟨fun i m G2 => m = 2 - i ∧ i ≤ 2 ∧ Same G (del G2 D2) ∧ ∃ S : Str → Bool, G2 D2 = some (SetTx P w D2 S i) ∧ (i = 0 → S "hp" = false ∧ S "gold" = false) ∧ (i = 1 → S "gold" = false), ⟨2, rfl, by decide, into nD2 (same_upd nD2), _, upd_same, fun _ => ⟨rfl, rfl⟩, fun y => by cases y⟩, ?_⟩
      rintro i m G2 ⟨rfl, hi, sG2, S, eD2, a0, a1⟩
      have s3 : Same H G2 := s2.trans (sG2.trans del_sub)
      have one : ∀ {u : Addr} {y : Str} {n : Int} {R : L2.St → Hp → Prop}, G2 u = some (.tup [.str y, .int n]) → R [some (.ref l), none, some (.str y), some (.int n), none] G2 → gTup K 2 (gCons (gName 2) (gCons (gName 3) gNil)) (.ref u) [some (.ref l), none, none, none, none] G2 R := fun {u y n R} eu r =>
        ⟨u, _, rfl, .inl (.inl eu), rfl, _, _, rfl, _, _, rfl, rfl, r⟩
      have roomy : ∀ i, i < 2 → i + 1 < scanBound := fun i h => by
        have : 3 < scanBound := by decide
        omega
      obtain rfl | rfl | rfl : i = 0 ∨ i = 1 ∨ i = 2 := by omega
      · refine .inr ⟨⟨_, .ref u1, hS s3, rfl⟩, fun G' => Same G (del G' D2) ∧ ∃ S : Str → Bool, G' D2 = some (SetTx P w D2 S 1) ∧ (1 = 0 → S "hp" = false ∧ S "gold" = false) ∧ (1 = 1 → S "gold" = false), fun G' y => ⟨1, by decide, rfl, by decide, y⟩, fun x G' hy => ?_⟩
        obtain ⟨rfl, hx⟩ := hy
        obtain rfl : V.ref u1 = x := Option.some.inj (hx _ (hS s3))
        refine one (s3 _ _ e1) ⟨rfl, _, rfl, "hp", S, 0, rfl, eD2, roomy 0 (by decide), ?_, ?_⟩
        · rw [del_upd]
          exact sG2
        · rw [(a0 rfl).1]
          refine ⟨_, upd_same, (fun z => nomatch z), fun _ => ?_⟩
          show (S "gold" || decide (("gold" : Str) = "hp")) = false
          rw [(a0 rfl).2]
          decide +kernel
      · refine .inr ⟨⟨_, .ref u2, hS s3, rfl⟩, fun G' => Same G (del G' D2) ∧ ∃ S : Str → Bool, G' D2 = some (SetTx P w D2 S 2) ∧ (2 = 0 → S "hp" = false ∧ S "gold" = false) ∧ (2 = 1 → S "gold" = false), fun G' y => ⟨0, by decide, rfl, by decide, y⟩, fun x G' hy => ?_⟩
        obtain ⟨rfl, hx⟩ := hy
        obtain rfl : V.ref u2 = x := Option.some.inj (hx _ (hS s3))
        refine one (s3 _ _ e2) ⟨rfl, _, rfl, "gold", S, 1, rfl, eD2, roomy 1 (by decide), ?_, ?_⟩
        · rw [del_upd]
          exact sG2
        · rw [a1 rfl]
          exact ⟨_, upd_same, (fun z => nomatch z), fun z => nomatch z⟩
      · refine .inl ⟨⟨_, hS s3, Nat.le_refl _⟩, D2, S, 2, rfl, eD2, ?_⟩
        refine ⟨_, rfl, l, _, rfl, .inl (hS s3), rfl, _, rfl, iteF ?_⟩
        -- the product
        refine ⟨_, rfl, l, rfl, ⟨_, hS s3⟩, fun D3 nD3 => ?_⟩
        refine lc_list (xs := [.ref u1, .ref u2]) (fun i G4 => Same G2 (del G4 D3) ∧ G4 D3 = some (.lst ([V.int 2, V.int 3].take i))) ⟨into nD3 (same_upd nD3), upd_same⟩ (fun i G4 _ hP => hS (s3.trans (hP.1.trans del_sub))) (fun i x G4 hx hP => ?_) (fun G4 hP => ?_)
        · obtain ⟨sG4, eD3⟩ := hP
          have s4 := s3.trans (sG4.trans del_sub)
          match i, hx with
          | 0, hx =>
            obtain rfl := Option.some.inj hx
            exact ⟨u1, _, rfl, .inl (.inl (s4 _ _ e1)), rfl, _, _, rfl, _, _, rfl, rfl, rfl, _, rfl, _, eD3, small1000 (by decide), by rw [del_upd]; exact sG4, upd_same⟩
          | 1, hx =>
            obtain rfl := Option.some.inj hx
            exact ⟨u2, _, rfl, .inl (.inl (s4 _ _ e2)), rfl, _, _, rfl, _, _, rfl, rfl, rfl, _, rfl, _, eD3, small1000 (Nat.le_of_ble_eq_true rfl), by rw [del_upd]; exact sG4, upd_same⟩
        · obtain ⟨sG4, eD3⟩ := hP
          exact ⟨hA, D3, rfl, eD3, _, _, rfl, rfl, q _ (s3.trans (sG4.trans del_sub))⟩
end
end EPL
-- part KB23
set_option maxHeartbeats 4000000
/-! B23: Space. -/
namespace EPL
open PySem PySem.Spec PyProof.Rows L2 L2H
section
variable {P : Program} {w : World} {K : PySem.W.Frag} {mg : Str → Option Value} {base : Heap}
abbrev aS (K : PySem.W.Frag) : Addr := He.ga K "Space"
/-- the law's space stands at a -/
def SpcAt (K : PySem.W.Frag) (H : Hp) (a : Addr) : Prop := ∃ dx fs tp t1 t2, H a = some (.ins (aS K) dx fs) ∧ fs.lookup ("names" : Str) = some (V.ref tp) ∧ H tp = some (.tup [.ref t1, .ref t2]) ∧ H t1 = some (.tup [.str "hp", .int 2]) ∧ H t2 = some (.tup [.str "gold", .int 3])
theorem SpcAt.same {H H' : Hp} {a : Addr} (h : SpcAt K H a) (s : Same H H') : SpcAt K H' a := by
  obtain ⟨dx, fs, tp, t1, t2, h1, h2, h3, h4, h5⟩ := h
  exact ⟨dx, fs, tp, t1, t2, s _ _ h1, h2, s _ _ h3, s _ _ h4, s _ _ h5⟩
def spSpc (K : PySem.W.Frag) : Sp := fun vs H Q _ => ∃ (a l dx : Addr), vs = [.ref a, .ref l] ∧ TwoN K H l ∧ H a = some (.ins (aS K) dx []) ∧ ∀ H', (∀ b o, b ≠ a → H b = some o → H' b = some o) → SpcAt K H' a → Q .non H'
theorem sc_spc : FnScope ["self", "names", "_", "size"] ["self", "names"] (defScope (inClass (top 69) 0)) := ⟨rfl, rfl, rfl, by decide +kernel, rfl, by decide +kernel, by decide +kernel⟩
theorem ok_spc {f fI fE : Addr} {fd : FuncData} (W : Ow K mg "Space" ["names", "never"] fI fE) (F : MtT K "Space" "__init__" 69 0 [] f fd) (cA : Cal P w K mg base "are_names" 3 ["value"] (spAre K)) (cP : Cal P w K mg base "product_of" 1 ["numbers"] (spProd K)) (ht : mg "tuple" = none) :
    FnOk P w K mg base CX0 4 f fd ["self", "names"] (spSpc K) := by
  refine FunD.ok F sc_spc (fun vs H Q E h => ?_) (fun cdv A outer s H vs Q E hr h => ?_)
  · obtain ⟨a, l, dx, rfl, _⟩ := h
    rfl
  · obtain ⟨a, l, dx, rfl, hT, e, z⟩ := h
    have nd := sc_spc.nd
    have h3 : RoomH 3 (A.deeper (envOfC ("Space" ++ ("." ++ "__init__" : Str)) (defScope (inClass (top 69) 0)) s.heap.objs.size f cdv)) := ⟨hr.dp, hr.un⟩
    have h1 := h3.mono (show 1 ≤ 3 by decide)
    have hA : (A.deeper (envOfC ("Space" ++ ("." ++ "__init__" : Str)) (defScope (inClass (top 69) 0)) s.heap.objs.size f cdv)).handled = none := hr.hd
    refine ⟨_, PSs.nox (pss_cons (ps_if (pt_not (pt_val (pe_cal cA h3 rfl (pa_cons (pv 1) pa_nil)))) pss_never pss_nil)
      (pss_cons (ps_fld (pv 0) (pe_callTy call_tuple_of rfl ht (by decide +kernel) (pa_cons (pv 1) pa_nil)) rfl)
      (pss_one (ps_fld (pv 0) (pe_cal cP h1 rfl (pa_cons (pe_lc (own := [("_", 2), ("size", 3)]) rfl nd (pi_list (pv 1)) (blkOk_by (N := ["self", "names", "_", "size"]) (sc := defScope (inClass (top 69) 0)) (by decide +kernel))
          (g := gTup K 2 (gCons (gName 2) (gCons (gName 3) gNil))) (fun _ _ _ _ _ => pg_tup rfl (pgs_cons (pg_name (i := 2) nd rfl (by first | exact Or.inl rfl | exact Or.inr rfl)) (pgs_cons (pg_name (i := 3) nd rfl (by first | exact Or.inl rfl | exact Or.inr rfl)) pgs_nil))) (fun _ _ _ _ _ => pts_nil) (fun _ _ _ _ _ => pv 3)) pa_nil)) rfl)))), ?_⟩
    refine ⟨.ref l, rfl, hA, l, rfl, hT, fun H1 s1 => ⟨true, rfl, iteF ?_⟩⟩
    obtain ⟨u1, u2, e0, e1, e2⟩ := hT.same s1
    have ea1 := s1 _ _ e
    refine ⟨.ref l, rfl, l, _, rfl, .inl ⟨.inl (.inl e0), fun p np => ?_⟩⟩
    have s2 : Same H1 (upd H1 p (.tup [.ref u1, .ref u2])) := same_upd np
    have ep : upd H1 p (.tup [.ref u1, .ref u2]) p = some (.tup [.ref u1, .ref u2]) := upd_same
    have ea2 := s2 _ _ ea1
    have S2 := s1.trans s2
    have n0 := s2 _ _ e0
    have n1 := s2 _ _ e1
    have n2 := s2 _ _ e2
    generalize upd H1 p (.tup [.ref u1, .ref u2]) = H2 at *
    refine ⟨.ref a, rfl, a, _, dx, [], rfl, ea2, W.c, W.no "names" (by decide +kernel), by decide, ?_⟩
    have neA : ∀ {b : Addr} {o : HO}, H2 b = some o → (∀ C d gs, o ≠ .ins C d gs) → b ≠ a := fun {b o} y ne k => by
      subst k
      rw [ea2] at y
      exact ne _ _ _ (Option.some.inj y).symm
    have a3 : upd H2 a (.ins (aS K) dx (putF "names" (.ref p) [])) a = some (.ins (aS K) dx [("names", .ref p)]) := upd_same
    have oth : ∀ b o, b ≠ a → H2 b = some o → upd H2 a (.ins (aS K) dx (putF "names" (.ref p) [])) b = some o := fun b o nb y => by
      rw [upd_ne nb]
      exact y
    have m0 := oth _ _ (neA n0 fun _ _ _ k => nomatch k) n0
    have m1 := oth _ _ (neA n1 fun _ _ _ k => nomatch k) n1
    have m2 := oth _ _ (neA n2 fun _ _ _ k => nomatch k) n2
    have mp := oth _ _ (neA ep fun _ _ _ k => nomatch k) ep
    generalize upd H2 a (.ins (aS K) dx (putF "names" (.ref p) [])) = H3 at *
    refine ⟨.ref l, rfl, l, rfl, ⟨_, .inl (.inl m0)⟩, fun D nD => ?_⟩
    have into : ∀ {G : Hp}, Same H3 G → Same H3 (del G D) := fun {G} k b o y => by
      rw [del_other (ne_of_none y nD)]
      exact k _ _ y
    refine lc_list (xs := [.ref u1, .ref u2]) (fun i G => Same H3 (del G D) ∧ G D = some (.lst ([V.int 2, V.int 3].take i))) ⟨into (same_upd nD), upd_same⟩ (fun i G _ hP => .inl (.inl (del_sub _ _ (hP.1 _ _ m0)))) (fun i x G hx hP => ?_) (fun G hP => ?_)
    · obtain ⟨sG, eD⟩ := hP
      have s4 := sG.trans del_sub
      match i, hx with
      | 0, hx =>
        obtain rfl := Option.some.inj hx
        exact ⟨u1, _, rfl, .inl (.inl (s4 _ _ m1)), rfl, _, _, rfl, _, _, rfl, rfl, rfl, _, rfl, _, eD, small1000 (by decide), by rw [del_upd]; exact sG, upd_same⟩
      | 1, hx =>
        obtain rfl := Option.some.inj hx
        exact ⟨u2, _, rfl, .inl (.inl (s4 _ _ m2)), rfl, _, _, rfl, _, _, rfl, rfl, rfl, _, rfl, _, eD, small1000 (Nat.le_of_ble_eq_true rfl), by rw [del_upd]; exact sG, upd_same⟩
    · obtain ⟨sG, eD⟩ := hP
      have s4 := sG.trans del_sub
      refine ⟨hA, D, rfl, eD, .ref a, rfl, a, _, dx, _, rfl, s4 _ _ a3, W.c, W.no "never" (by decide +kernel), Nat.le_of_ble_eq_true rfl, ?_⟩
      refine z _ (fun b o nb hb => by rw [upd_ne nb]; exact s4 _ _ (oth _ _ nb (S2 _ _ hb))) ⟨dx, _, p, u1, u2, upd_same, rfl, ?_, ?_, ?_⟩
      · rw [upd_ne (neA ep fun _ _ _ k => nomatch k)]
        exact s4 _ _ mp
      · rw [upd_ne (neA n1 fun _ _ _ k => nomatch k)]
        exact s4 _ _ m1
      · rw [upd_ne (neA n2 fun _ _ _ k => nomatch k)]
        exact s4 _ _ m2
def SeqR (K : PySem.W.Frag) (a b : Addr) (H : Hp) : Prop := SpcAt K H a ∧ SpcAt K H b
theorem sc_seq : FnScope ["self", "other"] ["self", "other"] (defScope (inClass (top 69) 1)) := ⟨rfl, rfl, rfl, by decide +kernel, rfl, by decide +kernel, by decide +kernel⟩
theorem ok_seq {f fI fE : Addr} {fd : FuncData} (W : Ow K mg "Space" ["names", "never"] fI fE) (F : MtT K "Space" "__eq__" 69 1 [] f fd) (hmi : mg "isinstance" = none) : FnOk P w K mg base CX0 1 f fd ["self", "other"] (spEq (SeqR K)) := by
  refine FunD.ok F sc_seq (fun vs H Q E h => ?_) (fun cdv A outer s H vs Q E hr h => ?_)
  · obtain ⟨a, b, rfl, _⟩ := h
    rfl
  · obtain ⟨a, b, rfl, ⟨⟨dx, fs, tp, t1, t2, h1, h2, h3, h4, h5⟩, dy, gs, tq, r1, r2, k1, k2, k3, k4, k5⟩, z⟩ := h
    have hu : (A.deeper (envOfC ("Space" ++ ("." ++ "__eq__" : Str)) (defScope (inClass (top 69) 1)) s.heap.objs.size f cdv)).units + 64 < cLine := hr.units
    refine ⟨_, PSs.nox (pss_one (ps_ret (pe_and (pe_callB call_isi rfl hmi (by decide +kernel) (pa_cons (pv 1) (pa_cons (pe_glob (v := .ref (aS K)) rfl W.g rfl) pa_nil))) (pe_one (pe_cmpR (op_eqD hu) (pe_fld (pv 0) rfl) (pe_fld (pv 1) rfl) (nomark _)))))), ?_⟩
    refine ⟨_, rfl, _, _, _, _, _, rfl, .own _, W.ty k1, W.me, true, rfl, iteT ?_⟩
    refine ⟨.ref a, rfl, a, _, dx, fs, _, rfl, h1, W.c, W.no "names" (by decide +kernel), h2, .ref b, rfl, b, _, dy, gs, _, rfl, k1, W.c, W.no "names" (by decide +kernel), k2, ?_⟩
    have dt : ∀ {q p1 p2 : Addr}, H q = some (.tup [.ref p1, .ref p2]) → H p1 = some (.tup [.str "hp", .int 2]) → H p2 = some (.tup [.str "gold", .int 3]) → Dp K H (.ref q) (.tuple [.tuple [.str "hp", .int 2], .tuple [.str "gold", .int 3]]) := fun a b c =>
      .tup (.inl (.inl a)) (.cons (.tup (.inl (.inl b)) (.cons (.str _) (.cons (.int _) .nil))) (.cons (.tup (.inl (.inl c)) (.cons (.str _) (.cons (.int _) .nil))) .nil))
    refine ⟨_, _, dt h3 h4 h5, dt k3 k4 k5, by kernel_rfl, by kernel_rfl, ?_⟩
    have e : PyData.eqv (.tuple [.tuple [.str "hp", .int 2], .tuple [.str "gold", .int 3]]) (.tuple [.tuple [.str "hp", .int 2], .tuple [.str "gold", .int 3]]) = true := by simp [PyData.eqv, PyData.eqvAll]
    rw [e]
    exact z _ (fun _ _ y => y)
end
end EPL
-- part KB24
set_option maxHeartbeats 4000000
/-! B24: law. -/
namespace EPL
open PySem PySem.Spec PyProof.Rows L2 L2H
section
variable {P : Program} {w : World} {K : PySem.W.Frag} {mg : Str → Option Value} {base : Heap}
def spLaw (K : PySem.W.Frag) (A : Around) : Sp := fun vs H Q _ => A.handled = none ∧ A.guards = some [] ∧ ∃ (a : Addr) (ns : List Int), vs = [.ref a] ∧ SqL K H a (ns.map V.int) ∧ ns.length ≤ 1000 ∧ ∀ H', Q (.bl true) H'
abbrev nLaw : List Str := ["script", "bare", "k", "box", "grown", "kept", "e", "way", "space", "thing"]
theorem sc_law : FnScope nLaw ["script"] (defScope (top 84)) := ⟨rfl, rfl, rfl, by decide +kernel, rfl, by decide +kernel, by decide +kernel⟩
/-- the built-ins that the law calls are themselves -/
structure Fr (mg : Str → Option Value) : Prop where
  isi : mg "isinstance" = none
  ve : mg "ValueError" = none
  len : mg "len" = none
  rng : mg "range" = none
  int : mg "int" = none
  sum : mg "sum" = none
  abs : mg "abs" = none
  rep : mg "repr" = none
  dct : mg "dict" = none
  max : mg "max" = none
  min : mg "min" = none
  all : mg "all" = none
  tup : mg "tuple" = none
  lst : mg "list" = none
  str : mg "str" = none
  bool : mg "bool" = none
/-- what the law calls -/
structure Cs (P : Program) (w : World) (K : PySem.W.Frag) (mg : Str → Option Value) (base : Heap) : Prop where
  cell : Cal P w K mg base "_law_cell" 1 ["script", "k"] (spCellK K)
  box : Cal P w K mg base "_law_box" 1 ["great"] spBox
  thing : Cal P w K mg base "_law_thing" 2 ["box"] (spThing K)
  pla : Cal P w K mg base "_law_by_place" 3 ["thing"] (spAll36 K)
  nam : Cal P w K mg base "_law_by_name" 3 ["thing"] (spAll36 K)
  sev : Cal P w K mg base "_law_several" 3 ["one", "two", "three", "four", "five", "way"] (spSev K)
  is_ : Cal P w K mg base "_law_is" 2 ["e", "spot"] (spIs K)
  kept : Cal P w K mg base "_law_kept" 1 ["e"] (spKept K)
  allr : Cal P w K mg base "_law_all_right" 4 ["box"] (spAllR K)
  cau : Cal P w K mg base "_law_caught" 4 ["box", "thing"] (spCaught K)
theorem sql_same {H H' : Hp} {a : Addr} {xs : List V} (s : Same H H') (h : SqL K H a xs) : SqL K H' a xs := by
  rcases h with (h | ⟨o, h⟩) | h
  · exact .inl (.inl (s _ _ h))
  · exact .inl (.inr ⟨o, s _ _ h⟩)
  · exact .inr h
theorem into_del {G B : Hp} {D : Addr} (n : B D = none) (z : Same B G) : Same B (del G D) := fun a o y => by
  rw [del_other (ne_of_none y n)]
  exact z _ _ y
theorem ne_nil {H : Hp} {D p : Addr} {Q : VK} (e1 : H D = some (.lst [])) (e2 : H p = some (.lst [])) (q : Q (.bl false) H) : rNeD K (.ref D) (.ref p) H Q := by
  refine ⟨.list [], .list [], .lst (.inl (.inl e1)) .nil, .lst (.inl (.inl e2)) .nil, by kernel_rfl, by kernel_rfl, ?_⟩
  have e : PyData.eqv (.list []) (.list []) = true := by simp [PyData.eqv, PyData.eqvAll]
  rw [e]
  exact q
def acc6 (c : Nat) : Nat := [0, 2, 4, 7, 10, 14, 19].getD c 0
theorem acc_step : ∀ {c : Nat}, c < 6 → acc6 c + cntL.getD c 0 = acc6 (c + 1) := by
  have : ∀ c, c < 6 → acc6 c + cntL.getD c 0 = acc6 (c + 1) := by decide
  exact fun {c} h => this c h
theorem acc_le {c i : Nat} (h : c < 6) (hi : i < 4) : 72 + 19 * i + acc6 c + cntL.getD c 0 ≤ 148 := by
  have : ∀ c, c < 6 → acc6 c + cntL.getD c 0 ≤ 19 := by decide
  have := this c h
  omega
theorem take_rep {v : V} {c : Nat} (h : c < 6) : ([v, v, v, v, v] : List V).take (cntL.getD c 0) = List.replicate (cntL.getD c 0) v := by
  match c, h with
  | 0, _ => rfl
  | 1, _ => rfl
  | 2, _ => rfl
  | 3, _ => rfl
  | 4, _ => rfl
  | 5, _ => rfl
theorem ok_law {f fRI fRE fSI fSE : Addr} {fd fdRI fdRE fdSI fdSE : FuncData} (W : Ev K mg) (F : FnT K "law" 84 f fd) (L : Fr mg) (C : Cs P w K mg base) (WR : Ow K mg "Ratio" ["top", "bottom"] fRI fRE) (WS : Ow K mg "Space" ["names", "never"] fSI fSE)
    (GRI : FnOk P w K mg base CX0 2 fRI fdRI ["self", "top", "bottom"] (spRat K)) (bRI : Binds K fdRI ["self", "top", "bottom"] []) (GRE : FnOk P w K mg base CX0 3 fRE fdRE ["self", "other"] (spEq (ReqR K))) (bRE : Binds K fdRE ["self", "other"] [])
    (GSI : FnOk P w K mg base CX0 4 fSI fdSI ["self", "names"] (spSpc K)) (bSI : Binds K fdSI ["self", "names"] []) (GSE : FnOk P w K mg base CX0 1 fSE fdSE ["self", "other"] (spEq (SeqR K))) (bSE : Binds K fdSE ["self", "other"] []) :
    FnN P w K mg base 6 f fd ["script"] (spLaw K) := by
  refine fn_calm F sc_law (fun A vs H Q E h => ?_) (fun A vs H Q E h => h.1) (fun cdv A outer s H vs Q E hr h => ?_)
  · obtain ⟨_, _, a, ns, rfl, _⟩ := h
    rfl
  · obtain ⟨hA, hG, a, ns, rfl, hS, hn, q⟩ := h
    have nd := sc_law.nd
    have h5 : RoomH 5 (A.deeper (envOfC "law" (defScope (top 84)) s.heap.objs.size f cdv)) := ⟨hr.dp, hr.un⟩
    have h4 := h5.mono (show 4 ≤ 5 by decide)
    have h3 := h5.mono (show 3 ≤ 5 by decide)
    have h2 := h5.mono (show 2 ≤ 5 by decide)
    have h1 := h5.mono (show 1 ≤ 5 by decide)
    have r2 := hr.mono (show 2 ≤ 5 by decide)
    have r3 := hr.mono (show 3 ≤ 5 by decide)
    have r1 := hr.mono (show 1 ≤ 5 by decide)
    have hu : (A.deeper (envOfC "law" (defScope (top 84)) s.heap.objs.size f cdv)).units + 64 < cLine := hr.units
    obtain ⟨fd42, m42, b42⟩ := mk_42 (P := P) (w := w) (base := base) W
    obtain ⟨fd43, m43, b43⟩ := mk_43 (P := P) (w := w) (base := base) W
    obtain ⟨fd44, m44, b44⟩ := mk_44 (P := P) (w := w) (base := base) W
    obtain ⟨fd12, m12, b12, _⟩ := mk_12 (P := P) (w := w) (base := base) W
    obtain ⟨fd38, m38, b38_0, b38_1, b38_2, b38_3⟩ := mk_38 (P := P) (w := w) (base := base) W
    have blk1 : ∀ {sc : Scope} {own : List (Str × Nat)}, blkC nLaw (defScope (top 84)) sc own = true → BlkOk nLaw (defScope (top 84)) sc own := fun h => blkOk_by h
    have rcS := rcG_ins (X := (cxOf CX0 P w K mg base nLaw "law" (defScope (top 84)) f cdv A outer s H E).nox) (E := E0) GSE WS.eq.at_ WS.eq.fn bSE pass0
    have rcR := rcG_ins (X := (cxOf CX0 P w K mg base nLaw "law" (defScope (top 84)) f cdv A outer s H E).nox) (E := E0) GRE WR.eq.at_ WR.eq.fn bRE pass0
    refine ⟨_, pss_cons (ps_set (i := 1) nd rfl (by first | exact Or.inl rfl | exact Or.inr rfl) (pe_lst (pa_cons (pe_err0 m42 r2 b42 rfl) (pa_cons (pe_err0 m43 r2 b43 rfl) (pa_cons (pe_err0 m44 r2 b44 rfl) pa_nil)))))
      (pss_cons (ps_if (pt_cmpR (op_neD hu) (pe_lc (own := [("k", 2)]) rfl nd (pi_range1 rfl L.rng (pa_cons pe_int pa_nil)) (blkOk_by (N := nLaw) (sc := defScope (top 84)) (by decide +kernel)) (fun _ _ _ _ _ => pg_name (i := 2) nd rfl (by first | exact Or.inl rfl | exact Or.inr rfl))
          (tt := tNot (tIsC K (A.deeper (envOfC "law" (defScope (top 84)) s.heap.objs.size f cdv)) (tOp (rIxL K) (tVar 1) (tVar 2)) (tOp (rI0 fun i j => .int (i + j)) (tC (.int 42)) (tVar 2))))
          (fun _ _ _ _ _ => pts_one (pt_not (pt_isF C.is_ h2 rfl (pe_ix (r := rIxL K) ix_list (pv 1) (pv 2) fun _ _ => rfl) (pe_op op_add pe_int (pv 2))))) (fun _ _ _ _ _ => pv 2)) (pe_lst pa_nil) (nomark _)) pss_never pss_nil)
      (pss_cons (ps_for PassesOwn.never rfl (pi_range1 rfl L.rng (pa_cons (pe_callB (call_max2 rfl) rfl L.max (by decide +kernel) (pa_cons pe_int (pa_cons (pe_callB (call_min2 rfl) rfl L.min (by decide +kernel) (pa_cons pe_int (pa_cons (pe_callB call_len_seq rfl L.len boot_len (pa_cons (pv 0) pa_nil)) pa_nil))) pa_nil))) pa_nil))
          (pg_name (i := 2) nd rfl (by first | exact Or.inl rfl | exact Or.inr rfl))
          (pss_cons (ps_set (i := 3) nd rfl (by first | exact Or.inl rfl | exact Or.inr rfl) (pe_cal C.box h1 rfl (pa_cons (pe_cal C.cell h1 rfl (pa_cons (pv 0) (pa_cons (pv 2) pa_nil))) pa_nil)))
          (pss_one (ps_if (PW.pt (pw_or (pt_not (pt_val (pe_cal C.allr h4 rfl (pa_cons (pv 3) pa_nil)))) (pw_or1 (pt_not (pt_val (pe_cal C.cau h4 rfl (pa_cons (pv 3) (pa_cons (pe_cal C.thing h2 rfl (pa_cons (pv 3) pa_nil)) pa_nil)))))))) pss_never pss_nil))))
      (pss_cons (ps_par (i := 4) (j := 5) rfl nd rfl rfl (by decide) rfl rfl (pa_cons (pe_lst (pa_cons pe_int pa_nil)) (pa_cons (pe_lst pa_nil) pa_nil)) rfl)
      (pss_cons (ps_for PassesOwn.never rfl (pi_list (pe_op op_cat (pe_cal C.pla h3 rfl (pa_cons (pv 4) pa_nil)) (pe_cal C.nam h3 rfl (pa_cons (pv 4) pa_nil)))) (pg_name (i := 6) nd rfl (by first | exact Or.inl rfl | exact Or.inr rfl))
          (pss_one (ps_set (i := 5) nd rfl (by first | exact Or.inl rfl | exact Or.inr rfl) (pe_op op_cat (pv 5) (pe_cal C.kept h1 rfl (pa_cons (pv 6) pa_nil))))))
      (pss_cons (ps_for PassesOwn.never rfl (pi_range1 rfl L.rng (pa_cons pe_int pa_nil)) (pg_name (i := 7) nd rfl (by first | exact Or.inl rfl | exact Or.inr rfl))
          (pss_one (ps_for PassesOwn.never rfl (pi_list (pe_cal C.sev h3 rfl (pa_cons (pv 4) (pa_cons (pv 4) (pa_cons (pv 4) (pa_cons (pv 4) (pa_cons (pv 4) (pa_cons (pv 7) pa_nil)))))))) (pg_name (i := 6) nd rfl (by first | exact Or.inl rfl | exact Or.inr rfl))
            (pss_one (ps_set (i := 5) nd rfl (by first | exact Or.inl rfl | exact Or.inr rfl) (pe_op op_cat (pv 5) (pe_cal C.kept h1 rfl (pa_cons (pv 6) pa_nil))))))))
      (pss_cons (ps_expr (pe_bm PySem.F.plainAttrs_list PySem.F.slot_list_append PySem.F.type_list_append mt_append (pv 4) (pa_cons pe_str pa_nil)))
      (pss_cons (ps_if (PW.pt (pw_or (pt_cmpR op_ne (pe_callB call_len_seq rfl L.len boot_len (pa_cons (pv 5) pa_nil)) pe_int (nomark _)) (pw_or1 (pt_cmpR (op_neD hu) (pe_lc (own := [("thing", 9)]) rfl nd (pi_list (pv 5)) (blkOk_by (N := nLaw) (sc := defScope (top 84)) (by decide +kernel)) (fun _ _ _ _ _ => pg_name (i := 9) nd rfl (by first | exact Or.inl rfl | exact Or.inr rfl))
          (tt := tTest (tOp (rNeD K) (tVar 9) (tLst (tCons (tC (.int 1)) (tCons (tC (.str "more")) tNil))))) (fun _ _ _ _ _ => pts_one (pt_cmpR (op_neD hu) (pv 9) (pe_lst (pa_cons pe_int (pa_cons pe_str pa_nil))) (nomark _))) (fun _ _ _ _ _ => pv 9)) (pe_lst pa_nil) (nomark _))))) pss_never pss_nil)
      (pss_cons (ps_set (i := 8) nd rfl (by first | exact Or.inl rfl | exact Or.inr rfl) (pe_make WS.mkr GSI hr rfl WS.g bSI .nil pass0 (pa_cons (pe_lst (pa_cons (pe_tup (pa_cons pe_str (pa_cons pe_int pa_nil))) (pa_cons (pe_tup (pa_cons pe_str (pa_cons pe_int pa_nil))) pa_nil))) pa_nil)))
      (pss_one (ps_ret (pe_and (pe_cmpR (op_eqG rcS r1) (pe_erf (pe_err m12 r2 b12 rfl (pa_cons (pv 8) pa_nil) pk_nil)) (pv 8) (nomark _))
        (pe_one (pe_cmpR (op_eqG rcR r3) (pe_erf (pe_err m38 r2 b38_1 rfl (pa_cons pe_int (pa_cons (pe_make WR.mkr GRI r3 rfl WR.g bRI .nil pass0 (pa_cons pe_int (pa_cons pe_int pa_nil))) (pa_cons pe_str pa_nil))) pk_nil))
          (pe_make WR.mkr GRI r3 rfl WR.g bRI .nil pass0 (pa_cons pe_int (pa_cons pe_int pa_nil))) (nomark _)))))))))))))), ?_⟩
    -- the three errors without values
    refine ⟨rfl, rfl, rfl, by decide, fun a0 H1 s1 n0 e0 => ⟨rfl, rfl, rfl, by decide, fun a1 H2 s2 n1 e1 => ⟨rfl, rfl, rfl, by decide, fun a2 H3 s3 n2 e2 => ⟨small (Nat.le_of_ble_eq_true rfl), fun bl nbl => ?_⟩⟩⟩⟩
    have sb : Same H3 (upd H3 bl (.lst [.ref a0, .ref a1, .ref a2])) := same_upd nbl
    have hbl : upd H3 bl (.lst [.ref a0, .ref a1, .ref a2]) bl = some (.lst [.ref a0, .ref a1, .ref a2]) := upd_same
    have E0' := (e0.f.same ((s2.trans s3).trans sb))
    have E1' := (e1.f.same (s3.trans sb))
    have E2' := (e2.f.same sb)
    have S4 : SqL K _ a (ns.map V.int) := sql_same (((s1.trans s2).trans s3).trans sb) hS
    show tSeq _ _ _ [some (.ref a), some (.ref bl), none, none, none, none, none, none, none, none] _
    generalize upd H3 bl (.lst [.ref a0, .ref a1, .ref a2]) = H4 at hbl E0' E1' E2' S4 ⊢
    have AE : ∀ i, i < 3 → ∃ x fs, ([V.ref a0, V.ref a1, V.ref a2] : List V)[i]? = some (.ref x) ∧ ErrF H4 x (ad K (42 + i)) fs := fun i hi => match i, hi with
      | 0, _ => ⟨_, _, rfl, E0'⟩
      | 1, _ => ⟨_, _, rfl, E1'⟩
      | 2, _ => ⟨_, _, rfl, E2'⟩
    -- each is what it should be
    refine ⟨3, rfl, by decide, by decide, fun D nD => ?_⟩
    refine lc_range (lo := 0) (n := (3 : Int).toNat) (fun i G => Same H4 (del G D) ∧ G D = some (.lst [])) ⟨into_del nD (same_upd nD), upd_same⟩ (fun i G hi hP => ?_) (fun G hP => ?_)
    · obtain ⟨sG, eD⟩ := hP
      obtain ⟨x, fs, hx, hE⟩ := AE i hi
      have s4 := sG.trans del_sub
      rw [Int.zero_add]
      refine ⟨rfl, .ref bl, rfl, .int (i : Nat), rfl, bl, _, _, .ref x, rfl, rfl, .inl (.inl (s4 _ _ hbl)), atI_nat hx, .int (i : Nat), rfl, _, _, rfl, rfl, ?_⟩
      show spIs K _ [.ref x, .int ((42 + i : Nat) : Int)] G _ E0
      exact is_ok (by have : i < 3 := hi; omega) (hE.same s4) (.inl hA) fun G2 s2 => iteF ⟨sG.trans (del_grow s2), s2 _ _ eD⟩
    obtain ⟨sG, eD⟩ := hP
    refine ⟨small (by decide), fun p np => ne_nil (same_upd np _ _ eD) upd_same ⟨false, rfl, iteF ?_⟩⟩
    have S5 : SqL K (upd G p (.lst [])) a (ns.map V.int) := sql_same ((sG.trans del_sub).trans (same_upd np)) S4
    show tSeq _ _ _ [some (.ref a), some (.ref bl), none, none, none, none, none, none, none, none] _
    generalize upd G p (.lst []) = H5 at S5 ⊢
    clear sG eD np hbl E0' E1' E2' S4 AE
    -- the draws
    refine ⟨.ref a, rfl, a, _, rfl, .inl S5, _, _, rfl, _, _, rfl, _, rfl, ?_, ?_, ?_⟩
    · split <;> split <;> omega
    · split <;> split <;> omega
    generalize (if (if ((ns.map V.int).length : Int) < 4 then ((ns.map V.int).length : Int) else 4) > 2 then (if ((ns.map V.int).length : Int) < 4 then ((ns.map V.int).length : Int) else 4) else (2 : Int)).toNat = turns
    refine for_range (lo := 0) (n := turns) (fun i σ G => (∃ o2 o3, σ = [some (.ref a), some (.ref bl), o2, o3, none, none, none, none, none, none]) ∧ Same H5 G) ⟨⟨_, _, rfl⟩, Same.refl _⟩ (fun i σ G hi hP => ?_) (fun σ G hP => ?_)
    · obtain ⟨⟨o2, o3, rfl⟩, sG⟩ := hP
      rw [Int.zero_add]
      refine ⟨.ref a, rfl, .int (i : Nat), rfl, hA, a, ns, i, rfl, sql_same sG S5, fun c G1 s1 => ⟨hA, c, rfl, fun p x0 g x2 np c1 c2 c3 => ?_⟩⟩
      refine ⟨.ref p, rfl, hA, hG, p, g, x2, 0, rfl, ⟨x0, 0, upd_same, c1, c2, c3, Int.le_refl _, Int.le_refl _⟩, by decide, fun G2 s2 b2 => ⟨true, rfl, iteF ?_⟩⟩
      refine ⟨.ref p, rfl, .ref p, rfl, hA, p, g, x2, 5, rfl, b2, by decide, fun v d G3 hd s3 b3 hv => ⟨hA, hG, p, g, x2, 6, v, d, rfl, b3, by decide, okn_menu d hd, hv, fun G4 s4 => ⟨true, rfl, iteF ⟨⟨_, _, rfl⟩, ?_⟩⟩⟩⟩
      rw [del_upd] at s2
      exact (sG.trans s1).trans ((into_del np (Same.refl _)).trans (s2.trans ((s3.trans s4).trans del_sub)))
    obtain ⟨⟨o2, o3, rfl⟩, sG⟩ := hP
    clear sG S5
    -- the list that grows, what is kept
    refine ⟨small (Nat.le_of_ble_eq_true rfl), fun g ng => ⟨small (Nat.le_of_ble_eq_true rfl), fun kp nkp => ⟨_, _, rfl, ?_⟩⟩⟩
    have e1 : upd (upd G g (.lst [.int 1])) kp (.lst []) g = some (.lst [.int 1]) := same_upd nkp _ _ upd_same
    have e2 : upd (upd G g (.lst [.int 1])) kp (.lst []) kp = some (.lst []) := upd_same
    show tSeq _ _ _ [some (.ref a), some (.ref bl), o2, o3, some (.ref g), some (.ref kp), none, none, none, none] _
    generalize upd (upd G g (.lst [.int 1])) kp (.lst []) = H6 at e1 e2 ⊢
    -- by place, by name
    refine ⟨.ref g, rfl, hA, .ref g, rfl, fun l0 G0 ws0 s0 n0 d0 a0 => ⟨.ref g, rfl, hA, .ref g, rfl, fun l1 G1 ws1 s1 n1 d1 a1 => ⟨l0, l1, _, _, rfl, rfl, s1 _ _ d0, d1, ?_, fun ll nll => ?_⟩⟩⟩
    · rw [← a0.length, ← a1.length]
      exact small (by unfold items36; rw [List.length_map, List.length_range]; decide)
    have s2 : Same G1 (upd G1 ll (.lst (ws0 ++ ws1))) := same_upd nll
    have ell : upd G1 ll (.lst (ws0 ++ ws1)) ll = some (.lst (ws0 ++ ws1)) := upd_same
    have A0 := a2_re (s1.trans s2) a0
    have A1 := a2_re s2 a1
    have e3 := s2 _ _ (s1 _ _ (s0 _ _ e1))
    have e4 := s2 _ _ (s1 _ _ (s0 _ _ e2))
    have L0 : ws0.length = 36 := a0.length.symm.trans (by unfold items36; rw [List.length_map, List.length_range])
    have L1 : ws1.length = 36 := a1.length.symm.trans (by unfold items36; rw [List.length_map, List.length_range])
    have AT : ∀ i, i < 72 → ∃ (x : Addr) (j : Nat), (ws0 ++ ws1)[i]? = some (.ref x) ∧ j < 36 ∧ ErrN (upd G1 ll (.lst (ws0 ++ ws1))) x (ad K j) ((fsE j).zip [V.ref g]).reverse := fun i hi => by
      have one : ∀ {ws : List V} {n : Nat}, A2 (RE K (upd G1 ll (.lst (ws0 ++ ws1)))) (items36 (.ref g)) ws → n < 36 → ∃ (x : Addr) (j : Nat), ws[n]? = some (.ref x) ∧ j < 36 ∧ ErrN (upd G1 ll (.lst (ws0 ++ ws1))) x (ad K j) ((fsE j).zip [V.ref g]).reverse := fun {ws n} hh hn => by
        obtain ⟨x', hx', x, ex, hE⟩ := hh.get (n := n) (i := (n, [V.ref g])) (by unfold items36; rw [List.getElem?_map, List.getElem?_range hn]; rfl)
        subst ex
        exact ⟨x, n, hx', hn, hE⟩
      by_cases h : i < 36
      · rw [List.getElem?_append_left (by omega)]
        exact one A0 h
      · rw [List.getElem?_append_right (by omega), L0]
        exact one A1 (by omega)
    have Lw : (ws0 ++ ws1).length = 72 := by rw [List.length_append, L0, L1]
    clear A0 A1 L0 L1 a0 a1 d0 d1 n0 n1 e1 e2
    refine ⟨ll, rfl, ⟨_, .inl (.inl ell)⟩, ?_⟩
    generalize upd G1 ll (.lst (ws0 ++ ws1)) = H7 at ell e3 e4 AT s2 ⊢
    generalize ws0 ++ ws1 = ws at ell AT Lw
    have step : ∀ {A' : Around} {n m : Nat} {g' k x : Addr} {j : Nat} {σ : L2.St} {G : Hp} {R : VK}, m ≤ 148 → σ[5]? = some (some (.ref k)) → σ[6]? = some (some (.ref x)) → G k = some (.lst (List.replicate n (.ref g'))) → n + m ≤ 148 → j < 42 → (fsE j).length = m → ErrF G x (ad K j) ((fsE j).zip (List.replicate m (V.ref g'))).reverse →
        (∀ k' G', Same G G' → G' k' = some (.lst (List.replicate (n + m) (.ref g'))) → R (.ref k') G') → tOp rCat (tVar 5) (tCallN (spKept K A') (tCons (tVar 6) tNil)) σ G R := fun {A' n m g' k x j σ G R} _ h5 h6 ek hnm hj hl hE r => by
      refine ⟨.ref k, h5, .ref x, h6, j, x, List.replicate m (.ref g'), hj, rfl, by rw [List.length_replicate, hl], hE, fun l nl => ?_⟩
      refine ⟨k, l, _, _, rfl, rfl, same_upd nl _ _ ek, upd_same, ?_, fun p np => r p _ ((same_upd nl).trans (same_upd np)) ?_⟩
      · rw [List.length_replicate, List.length_replicate]
        exact small (by omega)
      · rw [upd_same, List.replicate_append_replicate]
    refine for_list (xs := ws) (fun i σ G => (∃ k o6, σ = [some (.ref a), some (.ref bl), o2, o3, some (.ref g), some (.ref k), o6, none, none, none] ∧ G k = some (.lst (List.replicate i (.ref g)))) ∧ Same H7 G) ⟨⟨kp, none, rfl, e4⟩, Same.refl _⟩ (fun i σ G _ hP => .inl (.inl (hP.2 _ _ ell))) (fun i x σ G hx hP => ?_) (fun σ G hP => ?_)
    · obtain ⟨⟨k, o6, rfl, ek⟩, sG⟩ := hP
      have hi : i < 72 := Lw ▸ (List.getElem?_eq_some_iff.mp hx).1
      obtain ⟨y, j, hy, hj, hE⟩ := AT i hi
      obtain rfl := Option.some.inj (hx.symm.trans hy)
      exact step (m := 1) (by decide) rfl rfl ek (by omega) (by omega) (fsE_one j hj) (hE.f.same sG) fun k' G' s' e' => ⟨⟨k', _, rfl, e'⟩, sG.trans s'⟩
    obtain ⟨⟨k, o6, rfl, ek⟩, sG⟩ := hP
    rw [Lw] at ek
    have e5 := sG _ _ e3
    clear sG e3 e4 ell AT Lw s2
    -- several, four ways
    refine ⟨4, rfl, by decide, by decide, for_range (lo := 0) (n := (4 : Int).toNat) (fun i σ G' => (∃ k o6 o7, σ = [some (.ref a), some (.ref bl), o2, o3, some (.ref g), some (.ref k), o6, o7, none, none] ∧ G' k = some (.lst (List.replicate (72 + 19 * i) (.ref g)))) ∧ G' g = some (.lst [.int 1])) ⟨⟨k, o6, none, rfl, ek⟩, e5⟩ (fun i σ G' hi hP => ?_) (fun σ G' hP => ?_)⟩
    · obtain ⟨⟨k, o6, o7, rfl, ek⟩, e6⟩ := hP
      have hi : i < 4 := hi
      rw [Int.zero_add]
      refine ⟨.ref g, rfl, .ref g, rfl, .ref g, rfl, .ref g, rfl, .ref g, rfl, .int (i : Nat), rfl, hA, _, _, _, _, _, i, hi, rfl, fun sv G2 ws2 s2 n2 es a2 => ?_⟩
      refine ⟨sv, rfl, ⟨_, .inl (.inl es)⟩, ?_⟩
      have Lw : ws2.length = 6 := a2.length.symm
      refine for_list (xs := ws2) (fun c σ G' => (∃ k o6, σ = [some (.ref a), some (.ref bl), o2, o3, some (.ref g), some (.ref k), o6, some (.int (i : Nat)), none, none] ∧ G' k = some (.lst (List.replicate (72 + 19 * i + acc6 c) (.ref g)))) ∧ Same G2 G') ⟨⟨k, o6, rfl, s2 _ _ ek⟩, Same.refl _⟩ (fun i σ G _ hP => .inl (.inl (hP.2 _ _ es))) (fun c x σ G hx hP => ?_) (fun σ G hP => ?_)
      · obtain ⟨⟨k, o6, rfl, ek⟩, sG⟩ := hP
        have hc : c < 6 := Lw ▸ (List.getElem?_eq_some_iff.mp hx).1
        obtain ⟨y', hy', y, ey, hE⟩ := a2.get (n := c) (i := (36 + c, ([.ref g, .ref g, .ref g, .ref g, .ref g] : List V).take (cntL.getD c 0))) (it_at hc)
        obtain rfl := Option.some.inj (hx.symm.trans hy')
        subst ey
        have hE2 := hE.f.same sG
        rw [show ((36 + c, ([.ref g, .ref g, .ref g, .ref g, .ref g] : List V).take (cntL.getD c 0)) : Nat × List V).2 = List.replicate (cntL.getD c 0) (V.ref g) from take_rep hc] at hE2
        refine step (m := cntL.getD c 0) (j := 36 + c) (Nat.le_trans (cnt_le c) (by decide)) rfl rfl ek (acc_le hc hi) (by omega) (fsE_many c hc) hE2 fun k' G' s' e' => ⟨⟨k', _, rfl, ?_⟩, sG.trans s'⟩
        rw [e', Nat.add_assoc, acc_step hc]
      · obtain ⟨⟨k, o6, rfl, ek⟩, sG⟩ := hP
        rw [Lw] at ek
        refine ⟨⟨k, o6, _, rfl, ?_⟩, sG _ _ (s2 _ _ e6)⟩
        rw [ek]
        rfl
    obtain ⟨⟨k, o6, o7, rfl, ek⟩, e6⟩ := hP
    -- the list has grown
    refine ⟨.ref g, rfl, .inl ⟨rfl, _, .inl (.inl e6)⟩, g, _, .str "more", rfl, rfl, e6, small1000 (by decide), ?_⟩
    have ne : k ≠ g := fun z => by
      subst z
      rw [e6] at ek
      have := HO.lst.inj (Option.some.inj ek)
      have := congrArg List.length this
      rw [List.length_replicate] at this
      cases this
    have e7 : upd G' g (.lst [.int 1, .str "more"]) g = some (.lst [.int 1, .str "more"]) := upd_same
    have e8 : upd G' g (.lst [.int 1, .str "more"]) k = some (.lst (List.replicate 148 (.ref g))) := by
      rw [upd_ne ne, ek]
      rfl
    show tSeq _ _ _ [some (.ref a), some (.ref bl), o2, o3, some (.ref g), some (.ref k), o6, o7, none, none] (upd G' g (.lst [.int 1, .str "more"]))
    generalize upd G' g (.lst [.int 1, .str "more"]) = H8 at e7 e8 ⊢
    clear ek e6
    -- all that was kept is the list
    refine ⟨.ref k, rfl, k, _, rfl, .inl (.inl (.inl e8)), rfl, false, ?_, iteF ?_⟩
    · rw [List.length_replicate]
      rfl
    refine ⟨.ref k, rfl, k, rfl, ⟨_, .inl (.inl e8)⟩, fun D nD => ?_⟩
    refine lc_list (xs := List.replicate 148 (V.ref g)) (fun i G => Same H8 (del G D) ∧ G D = some (.lst [])) ⟨into_del nD (same_upd nD), upd_same⟩ (fun i G _ hP => .inl (.inl (del_sub _ _ (hP.1 _ _ e8)))) (fun i x G hx hP => ?_) (fun G hP => ?_)
    · obtain ⟨sG, eD⟩ := hP
      obtain rfl := List.eq_of_mem_replicate (List.mem_of_getElem? hx)
      refine ⟨rfl, .ref g, rfl, small (Nat.le_of_ble_eq_true rfl), fun p np => ?_⟩
      have s1 : Same G (upd G p (.lst [.int 1, .str "more"])) := same_upd np
      refine ⟨.list [.int 1, .str "more"], .list [.int 1, .str "more"], .lst (.inl (.inl (s1 _ _ (del_sub _ _ (sG _ _ e7))))) (.cons (.int _) (.cons (.str _) .nil)), .lst (.inl (.inl upd_same)) (.cons (.int _) (.cons (.str _) .nil)), by kernel_rfl, by kernel_rfl, ?_⟩
      have e : PyData.eqv (.list [.int 1, .str "more"]) (.list [.int 1, .str "more"]) = true := by simp [PyData.eqv, PyData.eqvAll]
      rw [e]
      exact ⟨false, rfl, iteF ⟨sG.trans (del_grow s1), s1 _ _ eD⟩⟩
    obtain ⟨sG, eD⟩ := hP
    refine ⟨small (by decide), fun p np => ne_nil (same_upd np _ _ eD) upd_same ⟨false, rfl, iteF ?_⟩⟩
    show tSeq _ _ _ [some (.ref a), some (.ref bl), o2, o3, some (.ref g), some (.ref k), o6, o7, none, none] _
    generalize upd G p (.lst []) = H9
    -- the space
    refine ⟨small (Nat.le_of_ble_eq_true rfl), fun t1 n1 => ⟨small (Nat.le_of_ble_eq_true rfl), fun t2 n2 => ⟨small (Nat.le_of_ble_eq_true rfl), fun l nl => fun x dx nx ndx nxd => ?_⟩⟩⟩
    have f1 := same_upd (o := .tup [.str "gold", .int 3]) n2 _ _ (upd_same (H := H9) (a := t1) (o := .tup [.str "hp", .int 2]))
    have f2 := upd_same (H := upd H9 t1 (.tup [.str "hp", .int 2])) (a := t2) (o := .tup [.str "gold", .int 3])
    have g0 := upd_same (H := upd (upd H9 t1 (.tup [.str "hp", .int 2])) t2 (.tup [.str "gold", .int 3])) (a := l) (o := .lst [.ref t1, .ref t2])
    have g1 := same_upd (o := .lst [.ref t1, .ref t2]) nl _ _ f1
    have g2 := same_upd (o := .lst [.ref t1, .ref t2]) nl _ _ f2
    generalize upd (upd (upd H9 t1 (.tup [.str "hp", .int 2])) t2 (.tup [.str "gold", .int 3])) l (.lst [.ref t1, .ref t2]) = HA at nx ndx g0 g1 g2 ⊢
    have sx : Same HA (upd (upd HA dx (.own x)) x (.ins (He.ga K "Space") dx [])) := (same_upd ndx).trans (same_upd (by rw [upd_ne (Ne.symm nxd)]; exact nx))
    refine ⟨x, l, dx, rfl, ⟨t1, t2, sx _ _ g0, sx _ _ g1, sx _ _ g2⟩, upd_same, fun HB oth sp => ⟨rfl, ?_⟩⟩
    clear oth sx
    -- what the error keeps is the space
    refine ⟨.ref x, rfl, rfl, rfl, rfl, by decide, fun e HC sC nC eC => ⟨e, ad K 12, _, .ref x, rfl, eC.f, W.c, W.no (by decide +kernel) ft_given, rfl, .ref x, rfl, ?_⟩⟩
    have spC := sp.same sC
    obtain ⟨dx1, fs1, tp1, u1, u2, h1', hrest⟩ := id spC
    refine ⟨⟨x, x, dx1, dx1, fs1, fs1, rfl, rfl, h1', h1', spC, spC⟩, fun HD eD => ⟨true, rfl, iteT ?_⟩⟩
    -- its unit is the very ratio
    have rr : ∀ {G : Hp} {y : Addr} {p q : Int} {a b : Int}, p / ((Nat.gcd p.natAbs q.natAbs : Nat) : Int) = a → q / ((Nat.gcd p.natAbs q.natAbs : Nat) : Int) = b → RatAt K G y (p / ((Nat.gcd p.natAbs q.natAbs : Nat) : Int)) (q / ((Nat.gcd p.natAbs q.natAbs : Nat) : Int)) → RatAt K G y a b := fun e1 e2 h => by
      rw [e1, e2] at h
      exact h
    refine fun y dy ny ndy nyd => ⟨y, dy, 2, 4, rfl, by decide, by decide, upd_same, fun HE' oth r => ⟨rfl, rfl, rfl, rfl, by decide, fun e2 HF sF nF eF => ⟨e2, ad K 38, _, .ref y, rfl, eF.f, W.c, W.no (by decide +kernel) ft_unit, rfl, ?_⟩⟩⟩
    have r1' : RatAt K HE' y 1 2 := rr (by decide +kernel) (by decide +kernel) r
    refine fun z dz nz ndz nzd => ⟨z, dz, 1, 2, rfl, by decide, by decide, upd_same, fun HG oth2 r2' => ⟨rfl, ?_⟩⟩
    have r2'' : RatAt K HG z 1 2 := rr (by decide +kernel) (by decide +kernel) r2'
    obtain ⟨dx2, fs2, y1, y2, y3⟩ := r1'
    have nyz : y ≠ z := fun w => by
      subst w
      have := sF _ _ y1
      rw [nz] at this
      cases this
    have sz : Same HF (upd (upd HF dz (.own z)) z (.ins (He.ga K "Ratio") dz [])) := (same_upd ndz).trans (same_upd (by rw [upd_ne (Ne.symm nzd)]; exact nz))
    have y1' := oth2 _ _ nyz (sz _ _ (sF _ _ y1))
    obtain ⟨dx3, fs3, z1, z2⟩ := id r2''
    exact ⟨⟨y, z, dx2, dx3, fs2, fs3, rfl, rfl, y1', z1, 1, 2, ⟨dx2, fs2, y1', y2, y3⟩, r2''⟩, fun HH eH => q _⟩
end
end EPL
-- part KH3
set_option maxHeartbeats 4000000
/-! H3: the caller calls a def whose promise looks at what is around. -/
namespace EPL
open PySem PySem.Spec PyProof.Rows L2 L2H
section
variable {P : Program} {w : World} {K : PySem.W.Frag} {mg mb : Str → Option Value} {k : Nat} {fa a : Addr} {fd : FuncData} {x : Str} {sp : Around → Sp} {s : Shared} {vs : List Value} {ns : List Int}
/-- the script alone is told, as something frozen, and only if it is no object of the module -/
def Scr (K : PySem.W.Frag) (H : Hp) (a : Addr) : Prop := ∀ b u, H b = some u → b = a ∧ K.lookup a = none ∧ ∃ o ys, u = .frz o (.lst ys)
theorem scr_call {H : Hp} (KX : K.In s.heap) (hns : s.heap.Ns mainGlobals mg) (hb : s.heap.Ns builtinsNs mb) (hbb : ∀ x : Str, x ≠ "__name__" → mb x = bootBuiltins x) (hlim : s.heap.NoLimit) (hg : s.gens = #[])
    (ha : s.heap.get? a = some { cls := .type "list", data := .seq vs.toArray }) (hr : RoomH k callerA) (F : ∀ base : Heap, K.In base → base.Ns mainGlobals mg → FnN P w K mg base k fa fd [x] sp)
    (hbind : ∀ (s : Shared) (u : Value), BindsTo s fd ⟨[u], []⟩ [(x, u)]) (only : Scr K H a) (ok : HOk P w H s.heap) (hsp : sp callerA [.ref a] H (fun v _ => v = .bl true) L2.E0) :
    codeAny (model P w) callerA (.call (.ref fa) ⟨[.ref a], []⟩) (fun r t => r = .ok (.ret (.bool true)) ∧ OldK s.heap t.heap ∧ t.os = s.os ∧ AllBare t.gens) s := by
  have free : ∀ {b : Addr}, (b = a → K.lookup a = none → False) → H b = none := fun {b} n => by
    cases q : H b with
    | none => rfl
    | some u => exact ((n (only b u q).1) (only b u q).2.1).elim
  have seen : ∀ {b : Addr} {m : Str → Option Value}, s.heap.Ns b m → (hidT s.heap H).Ns b m := fun {b m} z => by
    obtain ⟨o, es, ep, ge, gd, gr⟩ := z
    refine ⟨o, es, ep, hidT_get ge (free fun y _ => ?_), gd, gr⟩
    rw [y, ha] at ge
    rw [← Option.some.inj ge] at gd
    cases gd
  have inK : K.In (hidT s.heap H) := fun b o e => hidT_get (KX b o e) (free fun y n => by
    rw [← y, e] at n
    cases n)
  obtain ⟨mc, c1, c2⟩ := hlim
  have env : Env0 P w K mg (hidT s.heap H) callerA [] s H := ⟨rfl, ⟨inK, seen hns, ⟨mb, seen hb, hbb⟩, ⟨mc, seen c1, c2⟩⟩, fun _ _ e => of_hidT e, Nat.le_of_eq (hidT_size _ _), trivial, fun b m => absurd (show b ∈ ([] : List Addr) from m) (by simp), ok, .of_eq hg⟩
  refine codeAny_mono ((F _ inK (seen hns)).run callerA [] s H ⟨[.ref a], []⟩ [.ref a] [.ref a] _ L2.E0 hr env (hbind s (.ref a)) (.cons rfl .nil) hsp) fun r t post => ?_
  match r, post with
  | .ok (.ret u), post =>
    obtain ⟨v, G, os, bare, un, okG, rel, q⟩ := post
    obtain rfl : v = .bl true := q
    obtain rfl : u = Value.bool true := rel
    refine ⟨rfl, OldK.of_keep fun b o e => ?_, os, bare⟩
    cases y : H b with
    | none => exact un.keep b o e y (fun m => absurd (show b ∈ ([] : List Addr) from m) (by simp)) (by simp)
    | some u =>
      obtain ⟨_, _, ob, ys, rfl⟩ := only b u y
      have k1 := (ok b _ y).1
      rw [e] at k1
      rw [Option.some.inj k1]
      exact (okG b _ (un.frzs b ob _ y)).1
theorem law_callN (KX : K.In s.heap) (hns : s.heap.Ns mainGlobals mg) (hb : s.heap.Ns builtinsNs mb) (hbb : ∀ x : Str, x ≠ "__name__" → mb x = bootBuiltins x) (hlim : s.heap.NoLimit) (hg : s.gens = #[])
    (ha : s.heap.get? a = some { cls := .type "list", data := .seq vs.toArray }) (hi : IntsAre vs ns) (hl : ns.length ≤ sizeLine) (hr : RoomH k callerA) (F : ∀ base : Heap, K.In base → base.Ns mainGlobals mg → FnN P w K mg base k fa fd [x] sp)
    (hbind : ∀ (s : Shared) (u : Value), BindsTo s fd ⟨[u], []⟩ [(x, u)]) (hsp : ∀ H : Hp, SqL K H a (ns.map V.int) → sp callerA [.ref a] H (fun v _ => v = .bl true) L2.E0) :
    codeAny (model P w) callerA (.call (.ref fa) ⟨[.ref a], []⟩) (fun r t => r = .ok (.ret (.bool true)) ∧ OldK s.heap t.heap ∧ t.os = s.os ∧ AllBare t.gens) s := by
  have vi : Vals (ns.map V.int) vs := vals_ints hi
  cases m : K.lookup a with
  | some o =>
    obtain rfl := Option.some.inj ((KX a o m).symm.trans ha)
    exact scr_call (H := fun _ => none) KX hns hb hbb hlim hg ha hr F hbind (fun _ _ z => nomatch z) (fun _ _ z => nomatch z) (hsp _ (.inr ⟨_, vs.toArray, _, m, rfl, rfl, rfl, by rw [List.size_toArray, hi.length]; exact hl, vi⟩))
  | none =>
    refine scr_call (H := fun b => if b = a then some (.frz { cls := .type "list", data := .seq vs.toArray } (.lst (ns.map V.int))) else none) KX hns hb hbb hlim hg ha hr F hbind (fun b u z => ?_) (fun b u z => ?_) (hsp _ (.inl (.inr ⟨_, if_pos rfl⟩)))
    · dsimp only at z
      split at z
      · exact ⟨by assumption, m, _, _, (Option.some.inj z).symm⟩
      · cases z
    · dsimp only at z
      split at z
      · rename_i y
        cases z
        subst y
        exact ⟨ha, by rw [List.length_map]; exact hl, vs, _, vi, ha⟩
      · cases z
end
theorem walkN {l : PySem.W.OpenLaw} {n k : Nat} {q : Program} {loose : List Str} {XP : (Str → Option Value) → Heap → Prop} {YP : World → Heap → Prop} {d : DefRec} {x : Str} {sp : PySem.W.Frag → Around → Sp}
    (hn : l.most = some n) (hn2 : n ≤ sizeLine) (hdf : d.params.defaults = []) (hr : RoomH k callerA)
    (F : ∀ (w : World) (mg : Str → Option Value) (fa : Addr) (h : Heap), YP w h → h.Ns mainGlobals mg → mg d.name = some (.ref fa) →
      ∃ (K : PySem.W.Frag) (fd : FuncData), K.In h ∧ (∀ (s : Shared) (u : Value), BindsTo s fd ⟨[u], []⟩ [(x, u)]) ∧ ∀ base : Heap, K.In base → base.Ns mainGlobals mg → FnN l.prog w K mg base k fa fd [x] (sp K))
    (hsp : ∀ (K : PySem.W.Frag) (H : Hp) (a : Addr) (ns : List Int), ns.length ≤ n → SqL K H a (ns.map V.int) → sp K callerA [.ref a] H (fun v _ => v = .bl true) L2.E0) :
    PySem.W.WalkO q loose XP YP l.row.toRowW d [] (fun f vs => PySem.call f vs) :=
  Att.attach_call hn hdf fun w _ _ mg _ fa _ _ _ _ a _ ns G Y _ _ _ hmg hobj hints hlen hg => by
    obtain ⟨K, fd, KX, hb, hF⟩ := F w mg fa _ Y G.T.g hmg
    exact law_callN KX G.T.g G.T.b G.T.builtins G.T.nolimit hg hobj hints (Nat.le_trans hlen hn2) hr hF hb fun H hS => hsp K H a ns hlen hS
end EPL
-- part KH4
set_option maxHeartbeats 4000000
/-! H4: the facts as the law wants them. Printed by gen_kh4.py. -/
namespace EPL
open PySem PySem.Spec PyProof.Rows L2 L2H
theorem ndB_one : ∀ {l : List Addr}, ndB l = true → ∀ {i j : Nat} {x : Addr}, l[i]? = some x → l[j]? = some x → i = j
  | [], _, i, j, x, h, _ => by simp at h
  | a :: r, h, i, j, x, h1, h2 => by
    obtain ⟨k1, k2⟩ := He.ba (show (r.all (fun b => !(Nat.beq a b)) && ndB r) = true from h)
    have no : x ∈ r → a = x → False := fun m e => by
      subst e
      have z := List.all_eq_true.mp k1 a m
      rw [show Nat.beq a a = true from Nat.beq_refl a] at z
      cases z
    cases i with
    | zero => cases j with
      | zero => rfl
      | succ j =>
        rw [List.getElem?_cons_zero] at h1
        rw [List.getElem?_cons_succ] at h2
        exact (no (List.mem_of_getElem? h2) (Option.some.inj h1)).elim
    | succ i => cases j with
      | zero =>
        rw [List.getElem?_cons_zero] at h2
        rw [List.getElem?_cons_succ] at h1
        exact (no (List.mem_of_getElem? h1) (Option.some.inj h2)).elim
      | succ j =>
        rw [List.getElem?_cons_succ] at h1 h2
        rw [ndB_one k2 h1 h2]
theorem eT_len : eT.length = 45 := rfl
theorem eT_at {i : Nat} (h : i < 45) : eT[i]? = some (eAt i) := by
  rw [← eT_len] at h
  unfold eAt
  rw [List.getD_eq_getElem?_getD, List.getElem?_eq_getElem h]
  rfl
theorem eT_mem {i : Nat} (h : i < 45) : eAt i ∈ eT := List.mem_of_getElem? (eT_at h)
/-- the facts, one by one -/
structure Fs (K : PySem.W.Frag) : Prop where
  a : exA K = true
  b : exB K = true
  c : exC K = true
  d : ((faA ++ faB).all fun f => f.ok K) = true
  e : (fnInit.all fun d => d.ok K) = true
  f : (fnInit.map fun d => He.fnW K d.at_) = fnInit.map He.DefD.val
  g : (fnRest.all fun d => d.ok K) = true
  h : (fnRest.map fun d => He.fnW K d.at_) = fnRest.map He.DefD.val
theorem fs_of {K : PySem.W.Frag} (c : fE K = vE) : Fs K :=
  ⟨congrArg (fun z : AlE => z.1.1) c, congrArg (fun z : AlE => z.1.2) c, congrArg (fun z : AlE => z.2.1) c, congrArg (fun z : AlE => z.2.2.1) c, congrArg (fun z : AlE => z.2.2.2.1) c, congrArg (fun z : AlE => z.2.2.2.2.1) c, congrArg (fun z : AlE => z.2.2.2.2.2.1) c, congrArg (fun z : AlE => z.2.2.2.2.2.2) c⟩
theorem same_at {α β : Type} {f g : α → β} {l : List α} (h : l.map f = l.map g) {x : α} (m : x ∈ l) : f x = g x := List.map_inj_left.mp h x m
section
variable {P : Program} {w : World} {K : PySem.W.Frag} {mg : Str → Option Value} {base h : Heap}
theorem Fs.ini (c : Fs K) {i : Nat} (hi : i < 45) : ∃ fd, FunD K "__init__" (nmE i ++ ".__init__") (defArgs (iniS i)) (defBody (iniS i)) (defScope (iniS i)) [] [] (fiA K i) fd := by
  have m : eInit (eAt i) ∈ fnInit := List.mem_map.mpr ⟨_, eT_mem hi, rfl⟩
  exact He.DefD.funD (d := eInit (eAt i)) (same_at c.f m) (List.all_eq_true.mp c.e _ m)
theorem Fs.def_ (c : Fs K) (i : Nat) {d : He.DefD} (e : fnRest[i]? = some d) : ∃ fd, FunD K d.name d.qual d.params d.body d.scope (d.dvs K) (d.kws K) (He.fAd K d.at_) fd :=
  He.DefD.funD (same_at c.h (List.mem_of_getElem? e)) (List.all_eq_true.mp c.g _ (List.mem_of_getElem? e))
theorem Fs.fact (c : Fs K) (i : Nat) {f : He.Fa} (e : (faA ++ faB)[i]? = some f) : f.ok K = true := List.all_eq_true.mp c.d f (List.mem_of_getElem? e)
theorem Fs.glo (c : Fs K) {i : Nat} (hi : i < 45) : (He.Fa.glo (nmE i)).ok K = true := by
  refine List.all_eq_true.mp c.d _ (List.mem_append_right _ (List.mem_map.mpr ⟨_, eT_mem hi, rfl⟩))
theorem Fs.ev (c : Fs K) (X : K.In h) (G : h.Ns mainGlobals mg) : Ev K mg := by
  have fact := fun i {f} e => Fs.fact c i (f := f) e
  obtain ⟨a1, a2⟩ := He.ba c.a
  obtain ⟨a3, a4⟩ := He.ba a2
  obtain ⟨b1, b2⟩ := He.ba c.b
  obtain ⟨b3, b4⟩ := He.ba b2
  obtain ⟨b5, b6⟩ := He.ba b4
  have ats : ∀ {i : Nat}, i < 45 → (aPa K :: eT.map fun p => He.ga K p.1)[i + 1]? = some (ad K i) := fun {i} hi => by
    rw [List.getElem?_cons_succ, List.getElem?_map, eT_at hi]
    rfl
  refine ⟨a1, ⟨He.glo_ok X G (fact 40 (f := .glo "PactError") rfl), He.eqO_ok b3, b5, ?_⟩, fun i hi => List.all_eq_true.mp a3 _ (eT_mem hi), fun i j hi hj e => ?_, fun i hi e => ?_, fun i hi => He.glo_ok X G (c.glo hi), fun i hi => ?_, fun i hi => ?_, fun i hi => c.ini hi, ?_⟩
  · cases q : PySem.W.findCls K (.ref (aPa K)) (.type "type") "__init__" with
    | none =>
      rw [q] at b6
      cases b6
    | some r =>
      rw [q] at b6
      cases r with
      | val v =>
        cases v with
        | builtin n =>
          have e : n = "ValueError.__init__" := of_decide_eq_true b6
          rw [e]
        | _ => cases b6
      | _ => cases b6
  · have := ndB_one a4 (ats hi) (e ▸ ats hj)
    omega
  · have := ndB_one a4 (i := 0) rfl (e ▸ ats hi)
    omega
  · exact He.eqO_ok (He.ba (List.all_eq_true.mp b1 _ (eT_mem hi))).1
  · exact of_decide_eq_true (He.ba (List.all_eq_true.mp b1 _ (eT_mem hi))).2
  · have s1 := (He.ba c.c).1
    cases q : K.lookup sysModules with
    | none =>
      rw [q] at s1
      cases s1
    | some o =>
      rw [q] at s1
      refine ⟨o, q, fun z => ?_⟩
      have s2 : (!decide (o.cls = .type "list")) = true := s1
      rw [decide_eq_true z] at s2
      cases s2
theorem Fs.fr (c : Fs K) (X : K.In h) (G : h.Ns mainGlobals mg) : Fr mg := by
  have fact := fun i {f} e => Fs.fact c i (f := f) e
  exact ⟨He.free_ok X G (fact 0 (f := .free "isinstance") rfl), He.free_ok X G (fact 1 (f := .free "ValueError") rfl), He.free_ok X G (fact 2 (f := .free "len") rfl), He.free_ok X G (fact 3 (f := .free "range") rfl), He.free_ok X G (fact 4 (f := .free "int") rfl), He.free_ok X G (fact 5 (f := .free "sum") rfl), He.free_ok X G (fact 6 (f := .free "abs") rfl), He.free_ok X G (fact 7 (f := .free "repr") rfl), He.free_ok X G (fact 8 (f := .free "dict") rfl), He.free_ok X G (fact 9 (f := .free "max") rfl), He.free_ok X G (fact 10 (f := .free "min") rfl), He.free_ok X G (fact 11 (f := .free "all") rfl), He.free_ok X G (fact 12 (f := .free "tuple") rfl), He.free_ok X G (fact 13 (f := .free "list") rfl), He.free_ok X G (fact 14 (f := .free "str") rfl), He.free_ok X G (fact 15 (f := .free "bool") rfl)⟩
theorem Fs.nw (c : Fs K) (X : K.In h) (G : h.Ns mainGlobals mg) : Nw K mg := by
  have fact := fun i {f} e => Fs.fact c i (f := f) e
  obtain ⟨c1, c2⟩ := He.ba c.c
  obtain ⟨c3, c4⟩ := He.ba c2
  obtain ⟨c5, c6⟩ := He.ba c4
  exact ⟨He.str_ok X G (fact 46 (f := .str "LETTERS" "abcdefghijklmnopqrstuvwxyz") rfl), He.int_ok X G (fact 41 (f := .int "MOST_LETTERS" 8) rfl), He.int_ok X G (fact 42 (f := .int "MOST_NAMES" 2) rfl), He.int_ok X G (fact 43 (f := .int "LEAST_SIZE" 2) rfl), He.int_ok X G (fact 44 (f := .int "MOST_SIZE" 6) rfl), He.int_ok X G (fact 45 (f := .int "MOST_STORES" 6) rfl), He.glo_ok X G (fact 57 (f := .glo "WORDS") rfl), He.glo_ok X G (fact 58 (f := .glo "MORE_WORDS") rfl), fun H => He.tupB_ok c3 H, fun H => He.tupB_ok c5 H⟩
theorem Fs.cc (c : Fs K) (X : K.In h) (G : h.Ns mainGlobals mg) : mg "gcd" = some (.builtin "math.gcd") ∧ PySem.W.kitOne K (.ref (aR K)) (.type "int") = some false ∧ PySem.W.kitOne K (.ref (aR K)) (.ref (aR K)) = some true ∧ PySem.W.kitOne K (.ref (aS K)) (.ref (aS K)) = some true ∧ clB K "Ratio" = true ∧ clB K "Space" = true := by
  obtain ⟨c1, c2⟩ := He.ba c.c
  obtain ⟨c3, c4⟩ := He.ba c2
  obtain ⟨c5, c6⟩ := He.ba c4
  obtain ⟨c7, c8⟩ := He.ba c6
  obtain ⟨c9, d1⟩ := He.ba c8
  obtain ⟨d2, d3⟩ := He.ba d1
  obtain ⟨d4, d5⟩ := He.ba d3
  obtain ⟨e1, e2⟩ := He.ba c9
  exact ⟨PySem.W.mg_of X G (He.eqO_ok c7), of_decide_eq_true e1, of_decide_eq_true e2, of_decide_eq_true d2, d4, d5⟩
theorem Fs.owRatio (c : Fs K) (X : K.In h) (G : h.Ns mainGlobals mg) : Ow K mg "Ratio" ["top", "bottom"] (He.fAd K ("Ratio", some "__init__")) (He.fAd K ("Ratio", some "__eq__")) := by
  have fact := fun i {f} e => Fs.fact c i (f := f) e
  have k := c.cc X G
  obtain ⟨z1, z2⟩ := He.ba k.2.2.2.2.1
  refine ⟨He.glo_ok X G (fact 38 (f := .glo "Ratio") rfl), He.cls_ok (fact 47 (f := .cls "Ratio") rfl), He.mkr_ok (fact 48 (f := .mkr "Ratio") rfl), He.meth_ok (fact 51 (f := .meth "Ratio" "__eq__") rfl), fun f hf => ?_, k.2.2.1, He.eqO_ok z1, of_decide_eq_true z2⟩
  simp only [List.mem_cons, List.not_mem_nil, or_false] at hf
  rcases hf with rfl | rfl
  · exact He.noat_ok (fact 49 (f := .noat "Ratio" "top") rfl)
  · exact He.noat_ok (fact 50 (f := .noat "Ratio" "bottom") rfl)
theorem Fs.owSpace (c : Fs K) (X : K.In h) (G : h.Ns mainGlobals mg) : Ow K mg "Space" ["names", "never"] (He.fAd K ("Space", some "__init__")) (He.fAd K ("Space", some "__eq__")) := by
  have fact := fun i {f} e => Fs.fact c i (f := f) e
  have k := c.cc X G
  obtain ⟨z1, z2⟩ := He.ba k.2.2.2.2.2
  refine ⟨He.glo_ok X G (fact 39 (f := .glo "Space") rfl), He.cls_ok (fact 52 (f := .cls "Space") rfl), He.mkr_ok (fact 53 (f := .mkr "Space") rfl), He.meth_ok (fact 56 (f := .meth "Space" "__eq__") rfl), fun f hf => ?_, k.2.2.2.1, He.eqO_ok z1, of_decide_eq_true z2⟩
  simp only [List.mem_cons, List.not_mem_nil, or_false] at hf
  rcases hf with rfl | rfl
  · exact He.noat_ok (fact 54 (f := .noat "Space" "names") rfl)
  · exact He.noat_ok (fact 55 (f := .noat "Space" "never") rfl)
theorem glaw (X : K.In h) (G : h.Ns mainGlobals mg) (c : Fs K) : mg "law" = some (.ref (He.ga K "law")) := by
  have fact := fun i {f} e => Fs.fact c i (f := f) e
  exact He.glo_ok X G (fact 29 (f := .glo "law") rfl)
theorem cal_of {x : Str} {i k : Nat} {ps : List Str} {sp : Around → Sp} {fd : FuncData} (F : FnT K x i (He.ga K x) fd) (g : mg x = some (.ref (He.ga K x))) (G : FnN P w K mg base k (He.ga K x) fd ps sp) (b : L2.Binds K fd ps []) : Cal P w K mg base x k ps sp := ⟨_, fd, G, g, F.kp, b⟩
theorem facts (X : K.In h) (G : h.Ns mainGlobals mg) (c : Fs K) : ∃ fd : FuncData, (∀ (s : Shared) (v : Value), BindsTo s fd ⟨[v], []⟩ [("script", v)]) ∧ ∀ base : Heap, K.In base → base.Ns mainGlobals mg → FnN P w K mg base 6 (He.ga K "law") fd ["script"] (spLaw K) := by
  have fact := fun i {f} e => Fs.fact c i (f := f) e
  have W := c.ev X G
  have L := c.fr X G
  have N := c.nw X G
  have k := c.cc X G
  have WR := c.owRatio X G
  have WS := c.owSpace X G
  obtain ⟨d__law_cell, Flawcell⟩ : ∃ fd, FnT K "_law_cell" 71 (He.ga K "_law_cell") fd := c.def_ 0 (d := dOf "_law_cell" 71) rfl
  obtain ⟨d__law_box, Flawbox⟩ : ∃ fd, FnT K "_law_box" 72 (He.ga K "_law_box") fd := c.def_ 1 (d := dOf "_law_box" 72) rfl
  obtain ⟨d__law_take, Flawtake⟩ : ∃ fd, FnT K "_law_take" 73 (He.ga K "_law_take") fd := c.def_ 2 (d := dOf "_law_take" 73) rfl
  obtain ⟨d__law_by_place, Flawbyplace⟩ : ∃ fd, FnT K "_law_by_place" 74 (He.ga K "_law_by_place") fd := c.def_ 3 (d := dOf "_law_by_place" 74) rfl
  obtain ⟨d__law_by_name, Flawbyname⟩ : ∃ fd, FnT K "_law_by_name" 75 (He.ga K "_law_by_name") fd := c.def_ 4 (d := dOf "_law_by_name" 75) rfl
  obtain ⟨d__law_several, Flawseveral⟩ : ∃ fd, FnT K "_law_several" 76 (He.ga K "_law_several") fd := c.def_ 5 (d := dOf "_law_several" 76) rfl
  obtain ⟨d__law_sorts, Flawsorts⟩ : ∃ fd, FnT K "_law_sorts" 77 (He.ga K "_law_sorts") fd := c.def_ 6 (d := dOf "_law_sorts" 77) rfl
  obtain ⟨d__law_kept, Flawkept⟩ : ∃ fd, FnT K "_law_kept" 78 (He.ga K "_law_kept") fd := c.def_ 7 (d := dOf "_law_kept" 78) rfl
  obtain ⟨d__law_is, Flawis⟩ : ∃ fd, FnT K "_law_is" 79 (He.ga K "_law_is") fd := c.def_ 8 (d := dOf "_law_is" 79) rfl
  obtain ⟨d__law_thing, Flawthing⟩ : ∃ fd, FnT K "_law_thing" 80 (He.ga K "_law_thing") fd := c.def_ 9 (d := dOf "_law_thing" 80) rfl
  obtain ⟨d__law_all_right, Flawallright⟩ : ∃ fd, FnT K "_law_all_right" 81 (He.ga K "_law_all_right") fd := c.def_ 10 (d := dOf "_law_all_right" 81) rfl
  obtain ⟨d__law_raised, Flawraised⟩ : ∃ fd, FnT K "_law_raised" 82 (He.ga K "_law_raised") fd := c.def_ 11 (d := dOf "_law_raised" 82) rfl
  obtain ⟨d__law_caught, Flawcaught⟩ : ∃ fd, FnT K "_law_caught" 83 (He.ga K "_law_caught") fd := c.def_ 12 (d := dOf "_law_caught" 83) rfl
  obtain ⟨d_law, Flaw⟩ : ∃ fd, FnT K "law" 84 (He.ga K "law") fd := c.def_ 13 (d := dOf "law" 84) rfl
  obtain ⟨d_is_list, Fislist⟩ : ∃ fd, FnT K "is_list" 50 (He.ga K "is_list") fd := c.def_ 14 (d := dOf "is_list" 50) rfl
  obtain ⟨d_is_integer, Fisinteger⟩ : ∃ fd, FnT K "is_integer" 51 (He.ga K "is_integer") fd := c.def_ 15 (d := dOf "is_integer" 51) rfl
  obtain ⟨d_product_of, Fproductof⟩ : ∃ fd, FnT K "product_of" 52 (He.ga K "product_of") fd := c.def_ 16 (d := dOf "product_of" 52) rfl
  obtain ⟨d_parts_of_number, Fpartsofnumber⟩ : ∃ fd, FnT K "parts_of_number" 54 (He.ga K "parts_of_number") fd := c.def_ 17 (d := dOf "parts_of_number" 54) rfl
  obtain ⟨d_is_number, Fisnumber⟩ : ∃ fd, FnT K "is_number" 56 (He.ga K "is_number") fd := c.def_ 18 (d := dOf "is_number" 56) rfl
  obtain ⟨d_is_word, Fisword⟩ : ∃ fd, FnT K "is_word" 66 (He.ga K "is_word") fd := c.def_ 19 (d := dOf "is_word" 66) rfl
  obtain ⟨d_is_name, Fisname⟩ : ∃ fd, FnT K "is_name" 67 (He.ga K "is_name") fd := c.def_ 20 (d := dOf "is_name" 67) rfl
  obtain ⟨d_are_names, Farenames⟩ : ∃ fd, FnT K "are_names" 68 (He.ga K "are_names") fd := c.def_ 21 (d := dOf "are_names" 68) rfl
  obtain ⟨dRI, FRI⟩ : ∃ fd, MtT K "Ratio" "__init__" 55 0 [.int 1] (He.fAd K ("Ratio", some "__init__")) fd := by
    obtain ⟨fd, F⟩ := c.def_ 22 rfl
    refine ⟨fd, ?_⟩
    unfold MtT
    rw [show (("Ratio" ++ ("." ++ "__init__" : Str)) : Str) = "Ratio.__init__" by decide +kernel]
    exact F
  obtain ⟨dRE, FRE⟩ : ∃ fd, MtT K "Ratio" "__eq__" 55 8 [] (He.fAd K ("Ratio", some "__eq__")) fd := by
    obtain ⟨fd, F⟩ := c.def_ 23 rfl
    refine ⟨fd, ?_⟩
    unfold MtT
    rw [show (("Ratio" ++ ("." ++ "__eq__" : Str)) : Str) = "Ratio.__eq__" by decide +kernel]
    exact F
  obtain ⟨dSI, FSI⟩ : ∃ fd, MtT K "Space" "__init__" 69 0 [] (He.fAd K ("Space", some "__init__")) fd := by
    obtain ⟨fd, F⟩ := c.def_ 24 rfl
    refine ⟨fd, ?_⟩
    unfold MtT
    rw [show (("Space" ++ ("." ++ "__init__" : Str)) : Str) = "Space.__init__" by decide +kernel]
    exact F
  obtain ⟨dSE, FSE⟩ : ∃ fd, MtT K "Space" "__eq__" 69 1 [] (He.fAd K ("Space", some "__eq__")) fd := by
    obtain ⟨fd, F⟩ := c.def_ 25 rfl
    refine ⟨fd, ?_⟩
    unfold MtT
    rw [show (("Space" ++ ("." ++ "__eq__" : Str)) : Str) = "Space.__eq__" by decide +kernel]
    exact F
  have b__law_cell : L2.Binds K d__law_cell ["script", "k"] [] := Flawcell.bindsN fun _ _ _ _ _ _ us hl => match us, hl with | [_, _], _ => rfl
  have b__law_box : L2.Binds K d__law_box ["great"] [] := Flawbox.bindsN fun _ _ _ _ _ _ us hl => match us, hl with | [_], _ => rfl
  have b__law_take : L2.Binds K d__law_take ["box", "many"] [] := Flawtake.bindsN fun _ _ _ _ _ _ us hl => match us, hl with | [_, _], _ => rfl
  have b__law_by_place : L2.Binds K d__law_by_place ["thing"] [] := Flawbyplace.bindsN fun _ _ _ _ _ _ us hl => match us, hl with | [_], _ => rfl
  have b__law_by_name : L2.Binds K d__law_by_name ["thing"] [] := Flawbyname.bindsN fun _ _ _ _ _ _ us hl => match us, hl with | [_], _ => rfl
  have b__law_several : L2.Binds K d__law_several ["one", "two", "three", "four", "five", "way"] [] := Flawseveral.bindsN fun _ _ _ _ _ _ us hl => match us, hl with | [_, _, _, _, _, _], _ => rfl
  have b__law_sorts : L2.Binds K d__law_sorts ["e"] [] := Flawsorts.bindsN fun _ _ _ _ _ _ us hl => match us, hl with | [_], _ => rfl
  have b__law_kept : L2.Binds K d__law_kept ["e"] [] := Flawkept.bindsN fun _ _ _ _ _ _ us hl => match us, hl with | [_], _ => rfl
  have b__law_is : L2.Binds K d__law_is ["e", "spot"] [] := Flawis.bindsN fun _ _ _ _ _ _ us hl => match us, hl with | [_, _], _ => rfl
  have b__law_thing : L2.Binds K d__law_thing ["box"] [] := Flawthing.bindsN fun _ _ _ _ _ _ us hl => match us, hl with | [_], _ => rfl
  have b__law_all_right : L2.Binds K d__law_all_right ["box"] [] := Flawallright.bindsN fun _ _ _ _ _ _ us hl => match us, hl with | [_], _ => rfl
  have b__law_raised : L2.Binds K d__law_raised ["way", "thing"] [] := Flawraised.bindsN fun _ _ _ _ _ _ us hl => match us, hl with | [_, _], _ => rfl
  have b__law_caught : L2.Binds K d__law_caught ["box", "thing"] [] := Flawcaught.bindsN fun _ _ _ _ _ _ us hl => match us, hl with | [_, _], _ => rfl
  have b_law : L2.Binds K d_law ["script"] [] := Flaw.bindsN fun _ _ _ _ _ _ us hl => match us, hl with | [_], _ => rfl
  have b_is_list : L2.Binds K d_is_list ["value"] [] := Fislist.bindsN fun _ _ _ _ _ _ us hl => match us, hl with | [_], _ => rfl
  have b_is_integer : L2.Binds K d_is_integer ["value"] [] := Fisinteger.bindsN fun _ _ _ _ _ _ us hl => match us, hl with | [_], _ => rfl
  have b_product_of : L2.Binds K d_product_of ["numbers"] [] := Fproductof.bindsN fun _ _ _ _ _ _ us hl => match us, hl with | [_], _ => rfl
  have b_parts_of_number : L2.Binds K d_parts_of_number ["number"] [] := Fpartsofnumber.bindsN fun _ _ _ _ _ _ us hl => match us, hl with | [_], _ => rfl
  have b_is_number : L2.Binds K d_is_number ["value"] [] := Fisnumber.bindsN fun _ _ _ _ _ _ us hl => match us, hl with | [_], _ => rfl
  have b_is_word : L2.Binds K d_is_word ["value"] [] := Fisword.bindsN fun _ _ _ _ _ _ us hl => match us, hl with | [_], _ => rfl
  have b_is_name : L2.Binds K d_is_name ["value"] [] := Fisname.bindsN fun _ _ _ _ _ _ us hl => match us, hl with | [_], _ => rfl
  have b_are_names : L2.Binds K d_are_names ["value"] [] := Farenames.bindsN fun _ _ _ _ _ _ us hl => match us, hl with | [_], _ => rfl
  have bRE : L2.Binds K dRE ["self", "other"] [] := FRE.bindsN fun _ _ _ _ _ _ us hl => match us, hl with | [_, _], _ => rfl
  have bSI : L2.Binds K dSI ["self", "names"] [] := FSI.bindsN fun _ _ _ _ _ _ us hl => match us, hl with | [_, _], _ => rfl
  have bSE : L2.Binds K dSE ["self", "other"] [] := FSE.bindsN fun _ _ _ _ _ _ us hl => match us, hl with | [_, _], _ => rfl
  have bRI : L2.Binds K dRI ["self", "top", "bottom"] [] := by
    obtain ⟨ds, v, b⟩ := FRI.binds1 (ps := ["self", "top", "bottom"]) 3 1 (by simp) rfl fun _ _ _ _ _ _ _ us its hl hi => match us, hl, its, hi with | [_, _, _], _, [_], _ => ⟨_, rfl, rfl⟩
    cases v
    exact b
  have g__law_cell : mg "_law_cell" = some (.ref (He.ga K "_law_cell")) := He.glo_ok X G (fact 16 (f := .glo "_law_cell") rfl)
  have g__law_box : mg "_law_box" = some (.ref (He.ga K "_law_box")) := He.glo_ok X G (fact 17 (f := .glo "_law_box") rfl)
  have g__law_take : mg "_law_take" = some (.ref (He.ga K "_law_take")) := He.glo_ok X G (fact 18 (f := .glo "_law_take") rfl)
  have g__law_by_place : mg "_law_by_place" = some (.ref (He.ga K "_law_by_place")) := He.glo_ok X G (fact 19 (f := .glo "_law_by_place") rfl)
  have g__law_by_name : mg "_law_by_name" = some (.ref (He.ga K "_law_by_name")) := He.glo_ok X G (fact 20 (f := .glo "_law_by_name") rfl)
  have g__law_several : mg "_law_several" = some (.ref (He.ga K "_law_several")) := He.glo_ok X G (fact 21 (f := .glo "_law_several") rfl)
  have g__law_sorts : mg "_law_sorts" = some (.ref (He.ga K "_law_sorts")) := He.glo_ok X G (fact 22 (f := .glo "_law_sorts") rfl)
  have g__law_kept : mg "_law_kept" = some (.ref (He.ga K "_law_kept")) := He.glo_ok X G (fact 23 (f := .glo "_law_kept") rfl)
  have g__law_is : mg "_law_is" = some (.ref (He.ga K "_law_is")) := He.glo_ok X G (fact 24 (f := .glo "_law_is") rfl)
  have g__law_thing : mg "_law_thing" = some (.ref (He.ga K "_law_thing")) := He.glo_ok X G (fact 25 (f := .glo "_law_thing") rfl)
  have g__law_all_right : mg "_law_all_right" = some (.ref (He.ga K "_law_all_right")) := He.glo_ok X G (fact 26 (f := .glo "_law_all_right") rfl)
  have g__law_raised : mg "_law_raised" = some (.ref (He.ga K "_law_raised")) := He.glo_ok X G (fact 27 (f := .glo "_law_raised") rfl)
  have g__law_caught : mg "_law_caught" = some (.ref (He.ga K "_law_caught")) := He.glo_ok X G (fact 28 (f := .glo "_law_caught") rfl)
  have g_law : mg "law" = some (.ref (He.ga K "law")) := He.glo_ok X G (fact 29 (f := .glo "law") rfl)
  have g_is_list : mg "is_list" = some (.ref (He.ga K "is_list")) := He.glo_ok X G (fact 30 (f := .glo "is_list") rfl)
  have g_is_integer : mg "is_integer" = some (.ref (He.ga K "is_integer")) := He.glo_ok X G (fact 31 (f := .glo "is_integer") rfl)
  have g_product_of : mg "product_of" = some (.ref (He.ga K "product_of")) := He.glo_ok X G (fact 32 (f := .glo "product_of") rfl)
  have g_parts_of_number : mg "parts_of_number" = some (.ref (He.ga K "parts_of_number")) := He.glo_ok X G (fact 33 (f := .glo "parts_of_number") rfl)
  have g_is_number : mg "is_number" = some (.ref (He.ga K "is_number")) := He.glo_ok X G (fact 34 (f := .glo "is_number") rfl)
  have g_is_word : mg "is_word" = some (.ref (He.ga K "is_word")) := He.glo_ok X G (fact 35 (f := .glo "is_word") rfl)
  have g_is_name : mg "is_name" = some (.ref (He.ga K "is_name")) := He.glo_ok X G (fact 36 (f := .glo "is_name") rfl)
  have g_are_names : mg "are_names" = some (.ref (He.ga K "are_names")) := He.glo_ok X G (fact 37 (f := .glo "are_names") rfl)
  refine ⟨d_law, fun s v => Flaw.bindsA (ps := ["script"]) (fun _ _ _ _ _ _ us hl => match us, hl with | [_], _ => rfl) s [v] rfl, fun base _ _ => ?_⟩
  have c_is_list := cal_of Fislist g_is_list (ok_islist (P := P) (w := w) (base := base) Fislist L.isi L.lst L.tup) b_is_list
  have c_is_integer := cal_of Fisinteger g_is_integer (ok_isint (P := P) (w := w) (base := base) WR k.2.1 Fisinteger L.isi L.int L.bool) b_is_integer
  have c_product_of := cal_of Fproductof g_product_of (ok_prod (P := P) (w := w) (base := base) Fproductof) b_product_of
  have c_parts_of_number := cal_of Fpartsofnumber g_parts_of_number (ok_parts (P := P) (w := w) (base := base) WR Fpartsofnumber L.isi) b_parts_of_number
  have c_is_number := cal_of Fisnumber g_is_number (ok_isnum (P := P) (w := w) (base := base) WR Fisnumber c_is_integer L.isi) b_is_number
  have c_is_word := cal_of Fisword g_is_word (ok_word (P := P) (w := w) (base := base) N Fisword L.isi L.str L.len L.all) b_is_word
  have c_is_name := cal_of Fisname g_is_name (ok_isname (P := P) (w := w) (base := base) N Fisname c_is_word c_is_integer L.isi L.tup L.len) b_is_name
  have c_are_names := cal_of Farenames g_are_names (ok_are (P := P) (w := w) (base := base) N Farenames c_is_list c_is_name c_product_of L.len L.all) b_are_names
  have GRI := ok_rat (P := P) (w := w) (base := base) WR FRI c_is_integer k.1
  have GRE := ok_req (P := P) (w := w) (base := base) WR FRE c_is_number c_parts_of_number
  have GSI := ok_spc (P := P) (w := w) (base := base) WS FSI c_are_names c_product_of L.tup
  have GSE := ok_seq (P := P) (w := w) (base := base) WS FSE L.isi
  have c__law_cell := cal_of Flawcell g__law_cell (ok_cell (P := P) (w := w) (base := base) Flawcell L.len L.int L.sum) b__law_cell
  have c__law_box := cal_of Flawbox g__law_box (ok_box (P := P) (w := w) (base := base) Flawbox L.abs L.int) b__law_box
  have c__law_take := cal_of Flawtake g__law_take (ok_take (P := P) (w := w) (base := base) Flawtake L.int) b__law_take
  have c__law_by_place := cal_of Flawbyplace g__law_by_place (ok_place (P := P) (w := w) (base := base) W Flawbyplace) b__law_by_place
  have c__law_by_name := cal_of Flawbyname g__law_by_name (ok_name (P := P) (w := w) (base := base) W Flawbyname) b__law_by_name
  have c__law_several := cal_of Flawseveral g__law_several (ok_sev (P := P) (w := w) (base := base) W Flawseveral) b__law_several
  have c__law_kept := cal_of Flawkept g__law_kept (ok_kept (P := P) (w := w) (base := base) W Flawkept L.isi) b__law_kept
  have c__law_is := cal_of Flawis g__law_is (ok_is (P := P) (w := w) (base := base) W Flawis Flawsorts g__law_sorts L.isi L.ve L.len L.rng) b__law_is
  have c__law_thing := cal_of Flawthing g__law_thing (ok_thing (P := P) (w := w) (base := base) Flawthing Flawtake g__law_take L.int L.dct) b__law_thing
  have c__law_all_right := cal_of Flawallright g__law_all_right (ok_all (P := P) (w := w) (base := base) W Flawallright c__law_thing c__law_by_place c__law_by_name c__law_several c__law_is c__law_kept L.rng L.rep) b__law_all_right
  have c__law_caught := cal_of Flawcaught g__law_caught (ok_caught (P := P) (w := w) (base := base) W Flawcaught Flawraised g__law_raised c__law_take c__law_is c__law_kept L.rep) b__law_caught
  exact ok_law W Flaw L ⟨c__law_cell, c__law_box, c__law_thing, c__law_by_place, c__law_by_name, c__law_several, c__law_is, c__law_kept, c__law_all_right, c__law_caught⟩ WR WS GRI bRI GRE bRE GSI bSI GSE bSE
end
end EPL
-- part KH5
set_option maxHeartbeats 0
open PySem PySem.W PySem.Calls PyProof.Rows
theorem PySem.Challenge.cw_evenpatch_k00_errors_holds : PySem.Challenge.rw_evenpatch_k00_errors.Holds := by
  w_on; o_law
  refine HandSHeadRun.head_imp (r := OpenLaw.row PySem.Challenge.rw_evenpatch_k00_errors) (q := EPL.qv) (H := EPL.hkE) (ob := EPL.obE) (M := 20000) (loose := EPL.loose) (d := HandSHeadRun.topDef (OpenLaw.row PySem.Challenge.rw_evenpatch_k00_errors).prog 84) (kwd := []) EPL.obE_eq
    EPL.runAll (by kernel_rfl) (by kernel_rfl) (by kernel_rfl) (by rfl) (by first | assumption | decide +kernel) (by decide +kernel) ⟨rfl, rfl, rfl, rfl, rfl, by decide +kernel⟩ ?hw ?hc
  case hw => w_witness2
  case hc =>
    refine EPL.walkN (l := PySem.Challenge.rw_evenpatch_k00_errors) (n := 63) (k := 6) (x := "script") (sp := EPL.spLaw) rfl (by decide) (by kernel_rfl) ⟨by decide, by decide⟩ ?F (fun K H a ns hl hS => ⟨rfl, rfl, a, ns, rfl, hS, Nat.le_trans hl (by decide), fun _ => rfl⟩)
    intro w mg fa h Y G hmg0
    obtain ⟨K, KX, c⟩ := Y
    have hmg : mg ("law" : PySem.Str) = some (.ref fa) := by
      have e : (HandSHeadRun.topDef (OpenLaw.row PySem.Challenge.rw_evenpatch_k00_errors).prog 84).name = ("law" : PySem.Str) := by kernel_rfl
      rw [← e]
      exact hmg0
    have fs := EPL.fs_of c
    obtain ⟨fd, hb, hF⟩ := EPL.facts (P := (PySem.Challenge.rw_evenpatch_k00_errors).prog) (w := w) KX G fs
    have g := EPL.glaw KX G fs
    obtain rfl : fa = He.ga K "law" := by
      have z := hmg.symm.trans g
      cases z
      rfl
    exact ⟨K, fd, KX, hb, hF⟩
