import PyProof.Rows.All
import Wide.All
import OpenK.AllK
import Wide.FinOn
import KE.KStateDown
import HandS.ForMost
import HandS.Defaults
import HandS.ExcField
import HandS.Lambda
import HandS.NestedK
import HandS.EndBits
import HandS.EndTab
import HandS.HeadWalk
import HandS.Head0
import HandS.Head1
import HandS.Head2
import HandS.HeadHook1
import HandS.HeadHook2
import HandS.HeadHook3
import HandS.HeadHook4
import HandS.Exc
import HandS.ExcOwn
import HandS.TryMany
import HandS.ExcCtx
import HandS.Hot
import HandS.HotCalls
import HandS.Property
import PyProof.Rows.TupIter
import PyProof.RangeIter
import KE.KUnpack
import HandS.Iter
import HandS.Comp
import HandS.NoneIn
import KE.KWithOwn
import HandS.Finally
import KE.KTryMore
import KE.KExcInit
import HandS.ExcInit
import HandS.ExcIs
import HandS.ExcBuiltin
import KE.KIsAll
import OpenK.KOps
import OpenK.KMeth
import KE.KOpsOwn
import PyProof.Conv_bool
import PyProof.MeetsIn
import PyProof.InstEq
import HandS.List
import HandS.Nested
import HandS.More
import HandS.TupAny
import HandS.Style
import HandS.IsInst
import HandS.Zip
import HandS.StrMore
import PyProof.ReprRoads
import PyProof.ReprBulk
import PyProof.ListStr
import KE.DataMinMax
import KE.DataFind
import KE.KDictPairs
import KE.KEqDict
import KE.GoesEnum
import KE.GoesMore
import KE.GoesZip
import KE.SortData
import HandS.SortKw
import KE.KDictSum
import HandS.Wide
import HandS.Codes
import HandS.Walk
import PyProof.Rows.FactsExc_KeyError
import PyProof.ExcBaseAll.ValueError
import PyProof.ExcBaseAll.LookupError
import PyProof.ExcBaseAll.ArithmeticError
import PySem.Challenge.RW_spreadfalls_k76_whole_trials_in_trials
set_option Elab.async false
set_option linter.all false
set_option maxRecDepth 100000
section
set_option maxHeartbeats 0
/-! What the head is asked, and its run. -/
namespace PySem
namespace SpfX
/-- own classes, then the tail tl -/
def refsT (tl : List Value) : List Value → Bool
  | .ref _ :: r => refsT tl r
  | l => l == tl
end SpfX
end PySem
namespace Spf
open PySem PySem.Spec PyProof.Rows L2
def top (i : Nat) : Stmt := PySem.Challenge.pw_spreadfalls_k76_whole_trials_in_trials.main.body.getD i (.Pass ⟨0, 0, 0, 0⟩)
/-! ### functions by their addresses -/
structure DefS where
  at_ : PySem.W.Frag → Addr
  name : Str
  qual : Str
  st : Stmt
def fnVal (K : PySem.W.Frag) (a : Addr) : He.FnW := match K.lookup a with
  | some ⟨_, _, .func fd, _⟩ => some (fd.name, fd.qualname, fd.params, fd.body, fd.scope, fd.globals, fd.closure, fd.builtins)
  | _ => none
def DefS.val (d : DefS) : He.FnW := some (d.name, d.qual, defArgs d.st, .stmts (defBody d.st), defScope d.st, mainGlobals, [], builtinsNs)
def DefS.ok (K : PySem.W.Frag) (d : DefS) : Bool := PySem.W.keepIn K (.ref (d.at_ K)) && match K.lookup (d.at_ K) with
  | some ⟨_, _, .func fd, _⟩ => PySem.W.codeIn K fd.code d.qual && match fd.defaults with
    | .none => true
    | _ => false
  | _ => false
theorem DefS.is {K : PySem.W.Frag} {d : DefS} (e : fnVal K (d.at_ K) = d.val) (c : d.ok K = true) : ∃ fd, Fun K d.name d.qual d.st (d.at_ K) fd := by
  obtain ⟨kp, c2⟩ := Bool.and_eq_true_iff.mp c
  unfold fnVal at e
  split at c2
  · rename_i oc od fd osl lk
    rw [lk] at e
    obtain ⟨c3, c4⟩ := Bool.and_eq_true_iff.mp c2
    obtain ⟨n1, n2, n3, n4, n5, n6, n7, n8, n9, n10, n11, n12, n13, n14, n15⟩ := fd
    have e2 : (some (n1, n2, n3, n4, n5, n6, n7, n15) : He.FnW) = some (d.name, d.qual, defArgs d.st, .stmts (defBody d.st), defScope d.st, mainGlobals, [], builtinsNs) := e
    simp only [Option.some.injEq, Prod.mk.injEq] at e2
    obtain ⟨h1, h2, h3, h4, h5, h6, h7, h8⟩ := e2
    subst h1 h2 h3 h4 h5 h6 h7 h8
    have h9 : n8 = .none := by
      cases n8 <;> first | rfl | cases c4
    subst h9
    exact ⟨_, ⟨oc, od, n9, n10, n11, n12, n13, n14, osl, rfl, lk, c3⟩, kp⟩
  · cases c2
/-! ### facts -/
def propGet (K : PySem.W.Frag) (p : Addr) : Addr := match PySem.W.recIn K p "property" with
  | some (.ref g :: _) => g
  | _ => 0
inductive Fb where
  | fin (x m : Str)
  | prop (x m : Str)
  | ins (x : Str)
  | ne (x : Str)
  | seq (x : Str)
  | ex1 (x f : Str) (tl : List Value) (newId : String)
  | own0 (x : Str) (bm : List Value) (newId : String)
  | got (x : Str) (three cs : List Str) (ts : List String) (bs : List Bool)
  | apart (p q : He.Defn)
def exClsB (K : PySem.W.Frag) (C : Addr) (tl : List Value) (newId : String) : Bool := match K.lookup C with
  | some ⟨.type "type", _, .cls cd, sl⟩ => (match cd.mro, sl.toList with
    | .ref C' :: bm, [_, _, _, _, some (.builtin n), _] => C' == C && (n == newId && (!cd.hasDel && (cd.hasDict && PySem.SpfX.refsT tl bm)))
    | _, _ => false)
  | _ => false
def clsV (K : PySem.W.Frag) (x : Str) : Value := .ref (He.ga K x)
def Fb.ok (K : PySem.W.Frag) : Fb → Bool
  | .fin x m => PySem.W.fnIn K (He.ma K (He.ga K x) m)
  | .prop x m => He.eqO (PySem.W.findIn K (.ref (He.ga K x)) m) (some (some (.ref (He.ma K (He.ga K x) m)))) && (He.eqO (PySem.W.specialIn K (.ref (He.ma K (He.ga K x) m)) "__get__") (some (some (.builtin "property.__get__"))) && (decide (PySem.W.takesIn K (.ref (He.ma K (He.ga K x) m)) = some true) &&
      (match PySem.W.recIn K (He.ma K (He.ga K x) m) "property" with
      | some (.ref _ :: _) => true
      | _ => false)))
  | .ins x => He.eqO (PySem.W.findIn K (.ref (He.ga K x)) "__class__") (some (some (.builtin "object.__class__"))) && (He.eqO (PySem.W.specialIn K (.builtin "object.__class__") "__get__") (some (some (.builtin "getset_descriptor.__get__"))) && (decide (PySem.W.takesIn K (.builtin "object.__class__") = some true) &&
      (decide (PySem.W.mroIn K (He.ga K x) (.type "object") = some true) && decide (PySem.W.kitOne K (.ref (He.ga K x)) (.ref (He.ga K x)) = some true))))
  | .ne x => He.eqO (PySem.W.findIn K (.ref (He.ga K x)) "__ne__") (some (some (.builtin "object.__ne__")))
  | .seq x => PySem.W.noSeq K (He.ga K x)
  | .ex1 x f tl newId => exClsB K (He.ga K x) tl newId && (He.eqO (PySem.W.findIn K (.ref (He.ga K x)) "__setattr__") (some (some (.builtin "object.__setattr__"))) && (He.eqO (PySem.W.findIn K (.ref (He.ga K x)) f) (some none) &&
      (He.eqO (PySem.W.findIn K (.ref (He.ga K x)) "__init__") (some (some (.ref (He.ma K (He.ga K x) "__init__")))) && (decide (PySem.W.typeIn K (.ref (He.ma K (He.ga K x) "__init__")) = some (.type "function")) && (PySem.W.keepIn K (.ref (He.ga K x)) &&
      (decide (PySem.W.subIn K (.ref (He.ga K x)) (.type "BaseException") = some true) && decide (PySem.W.typeIn K (.ref (He.ga K x)) = some (.type "type"))))))))
  | .own0 x bm newId => PySem.W.excIn K (He.ga K x) bm newId && (PySem.W.keepIn K (.ref (He.ga K x)) && (decide (PySem.W.subIn K (.ref (He.ga K x)) (.type "BaseException") = some true) && decide (PySem.W.typeIn K (.ref (He.ga K x)) = some (.type "type"))))
  | .got x three cs ts bs => xfB K (He.ga K x) && (He.eqO (PySem.W.findIn K (.ref (He.ga K x)) "__class__") (some (some (.builtin "object.__class__"))) && (decide (PySem.W.mroIn K (He.ga K x) (.type "object") = some true) &&
      (decide (PySem.W.exmAny K (.ref (He.ga K x)) (three.map (clsV K)) = some true) && decide ((cs.map (clsV K) ++ ts.map Value.type).map (fun c => PySem.W.kitOne K (.ref (He.ga K x)) c) = bs.map some))))
  | .apart p q => (He.cT K p).2 != (He.cT K q).2
theorem band {a b : Bool} (h : (a && b) = true) : a = true ∧ b = true := Bool.and_eq_true_iff.mp h
/-! ### the hook -/
/-- what an object names, as far as the facts ask -/
def refsS (o : Obj) : List Addr := match o.data with
  | .dict es _ => es.toList.flatMap fun e => He.refV e.val
  | .func fd => He.refV fd.code
  | .cls cd => cd.ns :: cd.mro.flatMap He.refV
  | .fields vs => (match o.cls with
    | .type n => (match decide (n = "property") with
      | true => vs.toList.flatMap He.refV
      | false => [])
    | _ => [])
  | _ => []
def frL {α : Type} : List Addr → (List Addr → α) → α
  | [], k => k []
  | a :: as, k => HandSHeadRun.frNat a fun a' => frL as fun as' => k (a' :: as')
def stepS (g : Addr → Option Obj) (as : List Addr) : List Addr := as.flatMap fun a => match g a with
  | some o => refsS o
  | none => []
def reachS (g : Addr → Option Obj) : List Addr := frL (stepS g [mainGlobals]) fun l1 => frL (stepS g l1) fun l2 => frL (stepS g l2) fun l3 => frL (stepS g l3) fun l4 => frL (stepS g l4) fun l5 => mainGlobals :: (l1 ++ (l2 ++ (l3 ++ (l4 ++ l5))))
structure SaysS (defs : List DefS) (fa : List He.Fa) (fb : List Fb) (tf : List He.Defn) (h : Heap) (K : PySem.W.Frag) : Prop where
  fns : (defs.map fun d => fnVal K (d.at_ K)) = defs.map DefS.val
  oks : (defs.all fun d => d.ok K) = true
  fas : (fa.all fun f => f.ok K) = true
  fbs : (fb.all fun f => f.ok K) = true
  hd : ∀ p ∈ tf, PySem.W.codeHdIn K (He.cT K p).1 (He.cT K p).2 = true
  out : ∀ p ∈ tf, K.lookup (He.cT K p).2 = none
  empty : ∀ p ∈ tf, h.get? (He.cT K p).2 = some { cls := .none, data := .fields #[] }
abbrev AlS : Type := List He.FnW × Bool
def obsK (defs : List DefS) (fa : List He.Fa) (fb : List Fb) (tf : List He.Defn) (g : Addr → Option Obj) (K : PySem.W.Frag) : AlS :=
  (defs.map fun d => fnVal K (d.at_ K), (defs.all fun d => d.ok K) && ((fa.all fun f => f.ok K) && ((fb.all fun f => f.ok K) && He.tabsB g tf K)))
def obsS (defs : List DefS) (fa : List He.Fa) (fb : List Fb) (tf : List He.Defn) (g : Addr → Option Obj) : AlS := obsK defs fa fb tf g (He.frT g (reachS g))
def valS (defs : List DefS) : AlS := (defs.map DefS.val, true)
theorem saysS_of {defs : List DefS} {fa : List He.Fa} {fb : List Fb} {tf : List He.Defn} {h : Heap} (e : obsS defs fa fb tf h.get? = valS defs) : SaysS defs fa fb tf h (He.frT h.get? (reachS h.get?)) := by
  have e1 := congrArg Prod.fst e
  have e2 : ((defs.all fun d => d.ok (He.frT h.get? (reachS h.get?))) && ((fa.all fun f => f.ok (He.frT h.get? (reachS h.get?))) && ((fb.all fun f => f.ok (He.frT h.get? (reachS h.get?))) && He.tabsB h.get? tf (He.frT h.get? (reachS h.get?))))) = true := congrArg Prod.snd e
  obtain ⟨h1, e2⟩ := band e2
  obtain ⟨h2, e2⟩ := band e2
  obtain ⟨h3, h4⟩ := band e2
  have key : ∀ p ∈ tf, PySem.W.codeHdIn (He.frT h.get? (reachS h.get?)) (He.cT (He.frT h.get? (reachS h.get?)) p).1 (He.cT (He.frT h.get? (reachS h.get?)) p).2 = true ∧ ∃ o, h.get? (He.cT (He.frT h.get? (reachS h.get?)) p).2 = some o ∧ He.emptyTab o = true := fun p hp => by
    obtain ⟨h5, h6⟩ := band (List.all_eq_true.mp h4 p hp)
    refine ⟨h5, ?_⟩
    split at h6
    · rename_i o q
      exact ⟨o, q, h6⟩
    · cases h6
  refine ⟨e1, h1, h2, h3, fun p hp => (key p hp).1, fun p hp => ?_, fun p hp => ?_⟩
  · obtain ⟨_, o, q, z⟩ := key p hp
    exact He.frT_none q z
  · obtain ⟨_, o, q, z⟩ := key p hp
    rw [q, He.emptyTab_eq z]
def hookS (defs : List DefS) (fa : List He.Fa) (fb : List Fb) (tf : List He.Defn) : PySem.W.Hook where
  α := AlS
  obs := fun s => obsS defs fa fb tf s.heap.get?
  val := fun _ => valS defs
  says := fun _ h => ∃ K : PySem.W.Frag, K.In h ∧ SaysS defs fa fb tf h K
  of := fun _ _ e => ⟨_, He.frT_in, saysS_of e⟩
  keeps := fun _ _ _ ⟨K, hK, c⟩ k => ⟨K, PySem.W.Frag.In.keeps hK k, ⟨c.fns, c.oks, c.fas, c.fbs, c.hd, c.out, fun p hp => k _ _ (c.empty p hp)⟩⟩
theorem obsS_eq {defs : List DefS} {fa : List He.Fa} {fb : List Fb} {tf : List He.Defn} {g : Addr → Option Obj} {s : Shared} (h : ∀ a, g a = s.heap.get? a) : obsS defs fa fb tf g = (hookS defs fa fb tf).obs s := by
  have e : g = s.heap.get? := funext h
  rw [e]; rfl
section
variable {defs : List DefS} {fa : List He.Fa} {fb : List Fb} {tf : List He.Defn} {h : Heap} {K : PySem.W.Frag}
theorem SaysS.def_ (c : SaysS defs fa fb tf h K) (i : Nat) {d : DefS} (e : defs[i]? = some d) : ∃ fd, Fun K d.name d.qual d.st (d.at_ K) fd := by
  have e2 : (defs.map fun d => fnVal K (d.at_ K))[i]? = (defs.map DefS.val)[i]? := by rw [c.fns]
  rw [List.getElem?_map, List.getElem?_map, e] at e2
  exact DefS.is (Option.some.inj e2) (List.all_eq_true.mp c.oks d (List.mem_of_getElem? e))
theorem SaysS.fa_ (c : SaysS defs fa fb tf h K) (i : Nat) {f : He.Fa} (e : fa[i]? = some f) : f.ok K = true := List.all_eq_true.mp c.fas f (List.mem_of_getElem? e)
theorem SaysS.fb_ (c : SaysS defs fa fb tf h K) (i : Nat) {f : Fb} (e : fb[i]? = some f) : f.ok K = true := List.all_eq_true.mp c.fbs f (List.mem_of_getElem? e)
end
def dGlo (i : Nat) (x : Str) : DefS := ⟨fun K => He.ga K x, x, x, top i⟩
def dMet (C : Str) (i : Nat) (m qual : Str) (j : Nat) : DefS := ⟨fun K => He.ma K (He.ga K C) m, m, qual, inClass (top i) j⟩
def dPrp (C : Str) (i : Nat) (m qual : Str) (j : Nat) : DefS := ⟨fun K => propGet K (He.ma K (He.ga K C) m), m, qual, inClass (top i) j⟩
def hdD0 : List DefS := [dGlo 22 "is_integer", dGlo 23 "is_within", dGlo 24 "is_name", dGlo 25 "check_name", dGlo 29 "powers_of", dGlo 32 "is_spelled", dGlo 33 "figures_of", dGlo 34 "spelled", dGlo 36 "spreads_of", dGlo 37 "weights_of", dGlo 38 "fall_value", dGlo 39 "fall_from"]
def hdD1 : List DefS := [dGlo 40 "next_word", dGlo 41 "way_of", dGlo 43 "turned", dGlo 44 "ring_from", dGlo 45 "steps_from", dGlo 50 "is_wish", dGlo 51 "is_entry", dGlo 52 "holds", dGlo 53 "check_wishes", dGlo 56 "_law_well", dGlo 57 "_law_dip", dGlo 58 "_law_mixed"]
def hdD2 : List DefS := [dGlo 59 "_law_ground", dGlo 60 "_law_size", dGlo 61 "_law_number", dGlo 62 "_law_spell", dGlo 63 "_law_next", dGlo 64 "_law_drawn_word", dGlo 65 "_law_path", dGlo 66 "_law_ring", dGlo 67 "_law_spreads", dGlo 68 "_law_of", dGlo 69 "_law_made", dGlo 70 "_law_keeps"]
def hdD3 : List DefS := [dGlo 71 "_law_broken", dGlo 72 "_law_due", dGlo 73 "_law_put", dGlo 74 "_law_do", dGlo 75 "_law_told", dGlo 76 "_law_word", dGlo 77 "_law_fits", dGlo 78 "_law_behind", dGlo 79 "_law_near", dGlo 80 "_law_entries", dGlo 81 "_law_hope", dGlo 82 "_law_deed"]
def hdD4 : List DefS := [dGlo 83 "_law_nested", dGlo 84 "_law_right", dGlo 85 "law", dMet "Field" 31 "__init__" "Field.__init__" 0, dPrp "Field" 31 "base" "Field.base" 2, dPrp "Field" 31 "places" "Field.places" 3, dPrp "Field" 31 "figures" "Field.figures" 4, dMet "Field" 31 "__eq__" "Field.__eq__" 7, dMet "Mark" 47 "__init__" "Mark.__init__" 0, dMet "Attempt" 48 "__init__" "Attempt.__init__" 0, dMet "Attempt" 48 "__enter__" "Attempt.__enter__" 1, dMet "Attempt" 48 "__exit__" "Attempt.__exit__" 2]
def hdD5 : List DefS := [dMet "Book" 54 "__init__" "Book.__init__" 0, dPrp "Book" 54 "entries" "Book.entries" 1, dPrp "Book" 54 "names" "Book.names" 2, dPrp "Book" 54 "wishes" "Book.wishes" 3, dPrp "Book" 54 "changes" "Book.changes" 4, dMet "Book" 54 "__setitem__" "Book.__setitem__" 5, dMet "Book" 54 "__getitem__" "Book.__getitem__" 6, dMet "Book" 54 "wish" "Book.wish" 8, dMet "Book" 54 "lift" "Book.lift" 9, dMet "Book" 54 "undo" "Book.undo" 10, dMet "Book" 54 "trial" "Book.trial" 11, dMet "Book" 54 "tried" "Book.tried" 12]
def hdD6 : List DefS := [dMet "Book" 54 "__contains__" "Book.__contains__" 13, dMet "Book" 54 "__len__" "Book.__len__" 14, dMet "Book" 54 "__bool__" "Book.__bool__" 15, dMet "InvalidIndex" 6 "__init__" "InvalidIndex.__init__" 0, dMet "UnknownName" 11 "__init__" "UnknownName.__init__" 0, dMet "Broken" 14 "__init__" "Broken.__init__" 0]
def hdD : List DefS := hdD0 ++ hdD1 ++ hdD2 ++ hdD3 ++ hdD4 ++ hdD5 ++ hdD6
def hdA0 : List He.Fa := [.free "len", .free "range", .free "int", .free "str", .free "abs", .free "divmod", .free "sorted", .free "list", .free "tuple", .free "min", .free "max", .free "sum"]
def hdA1 : List He.Fa := [.free "zip", .free "all", .free "enumerate", .free "dict", .free "isinstance", .free "bool", .free "repr", .free "TypeError", .free "KeyError", .free "ValueError", .free "LookupError", .free "ArithmeticError"]
def hdA2 : List He.Fa := [.str "LETTERS" "abcdefghijklmnopqrstuvwxyz", .str "DIGITS" "0123456789", .str "SIGNS" "0123456789ab", .int "LEAST_BASE" 2, .int "MOST_BASE" 12, .int "MOST_PLACES" 6, .int "LONGEST_NAME" 8, .glo "is_integer", .glo "is_within", .glo "is_name", .glo "check_name", .glo "powers_of"]
def hdA3 : List He.Fa := [.glo "is_spelled", .glo "figures_of", .glo "spelled", .glo "spreads_of", .glo "weights_of", .glo "fall_value", .glo "fall_from", .glo "next_word", .glo "way_of", .glo "turned", .glo "ring_from", .glo "steps_from"]
def hdA4 : List He.Fa := [.glo "is_wish", .glo "is_entry", .glo "holds", .glo "check_wishes", .glo "_law_well", .glo "_law_dip", .glo "_law_mixed", .glo "_law_ground", .glo "_law_size", .glo "_law_number", .glo "_law_spell", .glo "_law_next"]
def hdA5 : List He.Fa := [.glo "_law_drawn_word", .glo "_law_path", .glo "_law_ring", .glo "_law_spreads", .glo "_law_of", .glo "_law_made", .glo "_law_keeps", .glo "_law_broken", .glo "_law_due", .glo "_law_put", .glo "_law_do", .glo "_law_told"]
def hdA6 : List He.Fa := [.glo "_law_word", .glo "_law_fits", .glo "_law_behind", .glo "_law_near", .glo "_law_entries", .glo "_law_hope", .glo "_law_deed", .glo "_law_nested", .glo "_law_right", .glo "law", .cls "Field", .glo "Field"]
def hdA7 : List He.Fa := [.mkr "Field", .meth "Field" "__eq__", .noat "Field" "root", .noat "Field" "width", .noat "Field" "many", .cls "Mark", .glo "Mark", .mkr "Mark", .noat "Mark" "states", .noat "Mark" "before", .cls "Attempt", .glo "Attempt"]
def hdA8 : List He.Fa := [.mkr "Attempt", .meth "Attempt" "__enter__", .meth "Attempt" "__exit__", .noat "Attempt" "holder", .noat "Attempt" "mark", .cls "Book", .glo "Book", .mkr "Book", .meth "Book" "__setitem__", .meth "Book" "__getitem__", .meth "Book" "wish", .meth "Book" "lift"]
def hdA9 : List He.Fa := [.meth "Book" "undo", .meth "Book" "trial", .meth "Book" "tried", .meth "Book" "__contains__", .meth "Book" "__len__", .meth "Book" "__bool__", .noat "Book" "states", .glo "InvalidName", .glo "InvalidWord", .glo "InvalidWish", .glo "WrongValue", .glo "WrongName"]
def hdA10 : List He.Fa := [.glo "NoAnswer", .glo "InvalidIndex", .glo "UnknownName", .glo "Broken", .glo "NothingToUndo"]
def hdA : List He.Fa := hdA0 ++ hdA1 ++ hdA2 ++ hdA3 ++ hdA4 ++ hdA5 ++ hdA6 ++ hdA7 ++ hdA8 ++ hdA9 ++ hdA10
def hdB0 : List Fb := [.prop "Field" "base", .prop "Field" "places", .prop "Field" "figures", .fin "Field" "__eq__", .ne "Field", .ins "Field", .fin "Attempt" "__enter__", .fin "Attempt" "__exit__", .prop "Book" "entries", .prop "Book" "names", .prop "Book" "wishes", .prop "Book" "changes"]
def hdB1 : List Fb := [.fin "Book" "__setitem__", .fin "Book" "__getitem__", .fin "Book" "wish", .fin "Book" "lift", .fin "Book" "undo", .fin "Book" "trial", .fin "Book" "tried", .fin "Book" "__contains__", .fin "Book" "__len__", .fin "Book" "__bool__", .seq "Book", .ex1 "InvalidIndex" "given" [.type "ValueError", .type "Exception", .type "BaseException", .type "object"] "ValueError.__new__"]
def hdB2 : List Fb := [.ex1 "UnknownName" "given" [.type "LookupError", .type "Exception", .type "BaseException", .type "object"] "LookupError.__new__", .ex1 "Broken" "index" [.type "ArithmeticError", .type "Exception", .type "BaseException", .type "object"] "ArithmeticError.__new__", .own0 "NothingToUndo" [.type "ArithmeticError", .type "Exception", .type "BaseException", .type "object"] "ArithmeticError.__new__", .got "InvalidIndex" ["WrongValue", "WrongName", "NoAnswer"] ["InvalidName", "InvalidWord", "InvalidWish", "InvalidIndex", "UnknownName", "Broken", "NothingToUndo", "WrongValue", "WrongName", "NoAnswer"] ["ValueError", "LookupError", "ArithmeticError"] [false, false, false, true, false, false, false, true, false, false, true, false, false], .got "UnknownName" ["WrongValue", "WrongName", "NoAnswer"] ["InvalidName", "InvalidWord", "InvalidWish", "InvalidIndex", "UnknownName", "Broken", "NothingToUndo", "WrongValue", "WrongName", "NoAnswer"] ["ValueError", "LookupError", "ArithmeticError"] [false, false, false, false, true, false, false, false, true, false, false, true, false], .got "Broken" ["WrongValue", "WrongName", "NoAnswer"] ["InvalidName", "InvalidWord", "InvalidWish", "InvalidIndex", "UnknownName", "Broken", "NothingToUndo", "WrongValue", "WrongName", "NoAnswer"] ["ValueError", "LookupError", "ArithmeticError"] [false, false, false, false, false, true, false, false, false, true, false, false, true], .got "NothingToUndo" ["WrongValue", "WrongName", "NoAnswer"] ["InvalidName", "InvalidWord", "InvalidWish", "InvalidIndex", "UnknownName", "Broken", "NothingToUndo", "WrongValue", "WrongName", "NoAnswer"] ["ValueError", "LookupError", "ArithmeticError"] [false, false, false, false, false, false, true, false, false, true, false, false, true], .apart ("Book", some "__setitem__") ("_law_behind", none), .apart ("Book", some "__setitem__") ("_law_nested", none), .apart ("_law_behind", none) ("_law_nested", none)]
def hdB : List Fb := hdB0 ++ hdB1 ++ hdB2
def hdT : List He.Defn := [("Book", some "__setitem__"), ("_law_behind", none), ("_law_nested", none)]
def loose0 : List Str := ["_wall", "WrongValue", "InvalidText", "InvalidName", "InvalidWish", "InvalidIndex", "InvalidBase", "InvalidPlaces", "InvalidWord", "WrongName", "UnknownName", "NoAnswer", "NothingToUndo", "Broken", "LEAST_BASE", "MOST_BASE"]
def loose1 : List Str := ["MOST_PLACES", "LETTERS", "DIGITS", "LONGEST_NAME", "is_integer", "is_within", "is_name", "check_name", "read_number", "SIGNS", "powers_of", "read_field", "Field", "is_spelled", "figures_of", "spelled"]
def loose2 : List Str := ["spreads_of", "weights_of", "fall_value", "fall_from", "next_word", "way_of", "turned", "ring_from", "steps_from", "Mark", "Attempt", "is_wish", "is_entry", "holds", "check_wishes", "Book"]
def loose3 : List Str := ["_law_well", "_law_dip", "_law_mixed", "_law_ground", "_law_size", "_law_number", "_law_spell", "_law_next", "_law_drawn_word", "_law_path", "_law_ring", "_law_spreads", "_law_of", "_law_made", "_law_keeps", "_law_broken"]
def loose4 : List Str := ["_law_due", "_law_put", "_law_do", "_law_told", "_law_word", "_law_fits", "_law_behind", "_law_near", "_law_entries", "_law_hope", "_law_deed", "_law_nested", "_law_right"]
def loose : List Str := loose0 ++ loose1 ++ loose2 ++ loose3 ++ loose4
/-! ### the run -/
abbrev R : PySem.W.OpenRow := PySem.W.OpenLaw.row PySem.Challenge.rw_spreadfalls_k76_whole_trials_in_trials
abbrev hkS : PySem.W.Hook := hookS hdD hdA hdB hdT
def obS (s : PySem.W.SharedT) : AlS := obsS hdD hdA hdB hdT (HandSHeadRun.getT s)
theorem obS_eq (s : PySem.W.SharedT) : obS s = hkS.obs s.abs := obsS_eq (HandSHeadRun.getT_eq s)
abbrev qS : Program := PySem.W.view R.prog [85]
open PySem.W PySem.Calls in
theorem runA (w : World) (os : OsState) : (HandSHeadRun.endF (HandSHeadRun.stepQ (HandSHeadRun.denQ HandSHeadRun.tabQ) R.prog w) 16000 R.prog w os).map (fun s => (HandSHeadRun.looksF R.prog (boot_heap w.params) s.abs, HandSHeadRun.seenQ qS loose (importedModules R.prog.main.body) (fun s => PySem.W.xlAt qS [] s && PySem.W.recOk R.toRowW.records s) s.abs)) = some (true, PySem.W.openGood qS loose) := by
  kernel_rfl
theorem runB (w : World) (os : OsState) : (HandSHeadRun.endF (HandSHeadRun.stepQ (HandSHeadRun.denQ HandSHeadRun.tabQ) R.prog w) 16000 R.prog w os).map obS = some (valS hdD) := by
  kernel_rfl
theorem run (w : World) : HandSHeadRun.RunEq R qS hkS obS 16000 loose w := by
  intro os
  have a := runA w os
  have b := runB w os
  revert a b
  cases HandSHeadRun.endF (HandSHeadRun.stepQ (HandSHeadRun.denQ HandSHeadRun.tabQ) R.prog w) 16000 R.prog w os with
  | none => intro a; cases a
  | some s =>
    intro a b
    have a' := Option.some.inj a
    have b' : obS s = valS hdD := Option.some.inj b
    refine congrArg some ?_
    have a1 := congrArg Prod.fst a'
    have a2 := congrArg Prod.snd a'
    exact Prod.ext a1 (Prod.ext a2 b')
end Spf
end
section
set_option maxHeartbeats 4000000
/-! Own layer 1: calls in both modes (calm, or an exception is handled), with the knowledge that no guard runs. -/
namespace Spf
open PySem PySem.Spec PyProof.Rows L2 L2H HotX
abbrev St := L2.St

/-- how the caller stands: g = true: no guard is running; h = true: p is the exception that is handled -/
structure RmX (g h : Bool) (k : Nat) (A : Around) (p : Addr × Obj) : Prop where
  room : RoomH k A
  gd : g = true → A.guards = some []
  calm : h = false → A.handled = none
  hot : h = true → Hot1 A p
theorem RmX.mono {g h : Bool} {j k : Nat} {A : Around} {p : Addr × Obj} (r : RmX g h k A p) (l : j ≤ k) : RmX g h j A p := ⟨r.room.mono l, r.gd, r.calm, r.hot⟩
theorem RmX.less {g g' h : Bool} {k : Nat} {A : Around} {p : Addr × Obj} (r : RmX g h k A p) (l : g' = true → g = true) : RmX g' h k A p := ⟨r.room, fun z => r.gd (l z), r.calm, r.hot⟩
theorem RmX.deeper {g h : Bool} {k : Nat} {A : Around} {p : Addr × Obj} (r : RmX g h (k + 1) A p) (env : Env) : RmX g h k (A.deeper env) p :=
  ⟨r.room.deeper env, r.gd, r.calm, r.hot⟩
theorem RmX.in1 {g h : Bool} {k : Nat} {A : Around} {p : Addr × Obj} (r : RmX g h (k + 1) A p) : RmX g h k A.in1 p :=
  ⟨⟨by have := r.room.dp; show A.depth + 3 * k + 5 < _; omega, by have := r.room.un; show A.units + 1 + 16 * k + 200 < _; omega⟩, r.gd, r.calm, r.hot⟩
theorem RmX.make {g h : Bool} {k : Nat} {A : Around} {p : Addr × Obj} (r : RmX g h (k + 1) A p) (C : Addr) (us : List Value) (kw : List (Str × Value)) : RmX g h k (A.under (.builtin "type.__call__" ⟨.ref C :: us, kw⟩)) p := by
  refine ⟨⟨by have := r.room.dp; rw [make_depth]; omega, by have := r.room.un; rw [make_units]; omega⟩, fun z => ?_, r.calm, r.hot⟩
  have e := r.gd z
  first
  | (show pushGuards _ A.guards = some []; rw [e]; rfl)
  | simp [Around.under, e, pushGuards, Code.guards, Code.isGuard, guardIds]
theorem RmX.toRoom {g : Bool} {k : Nat} {A : Around} {p : Addr × Obj} (r : RmX g false k A p) : Room k A := ⟨r.calm rfl, r.room.dp, r.room.un⟩
theorem RmX.units {g h : Bool} {k : Nat} {A : Around} {p : Addr × Obj} (r : RmX g h k A p) : A.units + 64 < cLine := by have := r.room.un; omega

/-- a def's promise in one mode -/
structure FnX (P : Program) (w : World) (K : PySem.W.Frag) (mg : Str → Option Value) (base : Heap) (CX : CXT) (g h : Bool) (k : Nat) (f : Addr) (fd : FuncData) (ps : List Str) (sp : Sp) : Prop where
  len : ∀ vs H Q E, sp vs H Q E → vs.length = ps.length
  run : ∀ (A : Around) (outer : List Env) (s : Shared) (H : Hp) (args : Args) (us : List Value) (vs : List V) (Q : VK) (E : XK) (p : Addr × Obj), RmX g h k A p → (h = true → PinOk outer H s p) → Env0 P w K mg base A outer s H → BindsTo s fd args (ps.zip us) → Vals vs us → sp vs H Q E →
    codeAny (model P w) A (.call (.ref f) args) (CR CX outer P w H s Q E) s
section
variable {P : Program} {w : World} {K : PySem.W.Frag} {mg : Str → Option Value} {base : Heap} {CX : CXT} {g h : Bool} {k j : Nat} {f : Addr} {fd : FuncData} {ps : List Str} {sp : Sp}
theorem FnX.mono (F : FnX P w K mg base CX g h j f fd ps sp) (l : j ≤ k) : FnX P w K mg base CX g h k f fd ps sp := ⟨F.len, fun A outer s H args us vs Q E p hr => F.run A outer s H args us vs Q E p (hr.mono l)⟩
theorem FnX.of_ok (F : FnOk P w K mg base CX k f fd ps sp) : FnX P w K mg base CX g false k f fd ps sp := ⟨F.len, fun A outer s H args us vs Q E p hr _ => F.run A outer s H args us vs Q E hr.toRoom⟩
theorem FnX.ok (F : FnX P w K mg base CX false false k f fd ps sp) : FnOk P w K mg base CX k f fd ps sp :=
  ⟨F.len, fun A outer s H args us vs Q E hr => F.run A outer s H args us vs Q E (0, default) ⟨⟨hr.dp, hr.un⟩, fun z => Bool.noConfusion z, fun _ => hr.hd, fun z => Bool.noConfusion z⟩ fun z => Bool.noConfusion z⟩
end
/-- a body's context in one mode -/
def cxX (CX : CXT) (P : Program) (w : World) (K : PySem.W.Frag) (mg : Str → Option Value) (base : Heap) (N : List Str) (qual : Str) (scope : Scope) (f : Addr) (cd : Value) (A : Around) (outer : List Env) (s : Shared) (H : Hp) (E : XK) (h : Bool) (p : Addr × Obj) : Cx :=
  { cxOf CX P w K mg base N qual scope f cd A outer s H E with calm := !h, pn := match h with | true => [p] | false => [] }
/-- how a body stands -/
structure Cxt (X : Cx) (g h : Bool) (k : Nat) (p : Addr × Obj) : Prop where
  rm : RmX g h k X.A p
  cm : X.calm = !h
  pin : h = true → p ∈ X.pn
theorem Cxt.mono {X : Cx} {g h : Bool} {j k : Nat} {p : Addr × Obj} (c : Cxt X g h k p) (l : j ≤ k) : Cxt X g h j p := ⟨c.rm.mono l, c.cm, c.pin⟩
theorem Cxt.nox {X : Cx} {g h : Bool} {k : Nat} {p : Addr × Obj} (c : Cxt X g h k p) (E : Value → Shared → Prop) : Cxt (X.wish E) g h k p := ⟨c.rm, c.cm, c.pin⟩
/-- the mode of a context: calm, or it bears the handled exception -/
def Md (X : Cx) : Prop := X.calm = true ∨ HotC X
theorem Cxt.md {X : Cx} {g h : Bool} {k : Nat} {p : Addr × Obj} (c : Cxt X g h k p) : Md X := by
  cases h with
  | false => exact .inl c.cm
  | true => exact .inr ⟨p, c.rm.hot rfl, c.pin rfl⟩
/-- nothing is handled, or an exception whose context is None -/
def EndOk (A : Around) (hp : Heap) : Prop := A.handled = none ∨ ∃ x1, HotAt A x1 hp
theorem Md.at {X : Cx} {pins : List (Addr × Obj)} {σ : St} {H : Hp} {s : Shared} (m : Md X) (I : Inv X pins σ H s) : EndOk X.A s.heap := by
  rcases m with m | m
  · exact .inl (I.ok.hd m)
  · exact .inr (m.at I)

theorem fn_ofX {CX : CXT} {P : Program} {w : World} {K : PySem.W.Frag} {mg : Str → Option Value} {base : Heap} {g h : Bool} {k : Nat} {f : Addr} {name qual : Str} {params : Arguments} {body : List Stmt} {scope : Scope} {dV kV doc pm cdv ct oc : Value} {an od : Option Addr}
    {osl : Array (Option Value)} {N ps : List Str} {sp : Sp} (lk : K.lookup f = some ⟨oc, od, .func (PySem.W.fnOf name qual params body scope dV kV doc pm an cdv ct), osl⟩) (hcd : PySem.W.codeIn K cdv qual = true) (S : FnScope N ps scope)
    (len : ∀ vs H Q E, sp vs H Q E → vs.length = ps.length)
    (hbody : ∀ (A : Around) (outer : List Env) (s : Shared) (H : Hp) (vs : List V) (Q : VK) (E : XK) (p : Addr × Obj), Cxt (cxX CX P w K mg base N qual scope f cdv A outer s H E h p) g h k p → sp vs H Q E →
      ∃ t, PSs (cxX CX P w K mg base N qual scope f cdv A outer s H E h p) body t ∧ t { nx := fun _ H' => Q .non H', rt := Q } (L2.start N vs) H) :
    FnX P w K mg base CX g h (k + 1) f (PySem.W.fnOf name qual params body scope dV kV doc pm an cdv ct) ps sp := by
  refine ⟨len, fun A outer s H args us vs Q E p hr hpin e0 hb r hsp => ?_⟩
  have hl := len _ _ _ _ hsp
  have KX : K.In s.heap := e0.mod.kin.keeps fun b o e => (e0.bs b o e).1
  have lim : s.heap.NoLimit := e0.mod.nolimit.keeps fun b o e => (e0.bs b o e).1
  have hkind : ∀ y ∈ ps.zip us, scope.names.lookup y.1 = some .local ∨ (scope.names.lookup y.1 = some .cell ∧ ((cellsFrom (s.heap.objs.size + 1) scope.names []).lookup y.1).isSome = true) := fun ⟨n, v⟩ hy => by
    rcases S.par n (List.of_mem_zip hy).1 with q | q
    · exact .inl q
    · exact .inr ⟨q, PySem.W.cellsFrom_some _ _ _ (.inl q)⟩
  refine codeAny_call_function hr.room.depth (KX _ _ lk) rfl S.co S.gen rfl (PySem.W.codeRec_of KX hcd) (hb _ _ _ _ ?_)
  refine wpAny_newFunctionEnv_cells S.kind hkind fun env he s1 x => ?_
  subst he
  refine ⟨lim.keeps x.toInCall.keep, codeAny_func ?_⟩
  have ct : Cxt (cxX CX P w K mg base N qual scope f cdv A outer s H E h p) g h k p := ⟨hr.deeper _, rfl, fun z => by
    subst z
    exact List.mem_singleton.mpr rfl⟩
  obtain ⟨t, ht, hq⟩ := hbody A outer s H vs Q E p ct hsp
  have I : Inv (cxX CX P w K mg base N qual scope f cdv A outer s H E h p) [] (L2.start N vs) H s1 := by
    cases h with
    | false => exact inv_start S (hr.calm rfl) e0 hl r x
    | true => exact inv_startH S (hpin rfl) e0 hl r x
  refine wpAny_mono (ht.run [] s1 (L2.start N vs) H _ I hq) (fun fl s' hs => ?_) fun e s' hs => hs
  have fin : ∀ {σ' : St} {H' : Hp} {v : V} {u : Value}, Inv (cxX CX P w K mg base N qual scope f cdv A outer s H E h p) [] σ' H' s' → RelV v u → Q v H' → CE outer P w H s Q u s' :=
    fun {σ' H' v u} J rv q => ⟨v, H', J.os, J.bare, J.base, J.hok, rv, q⟩
  cases fl with
  | ret u =>
    obtain ⟨v, σ', H', J, rv, q⟩ := hs
    exact fin J rv q
  | next =>
    obtain ⟨σ', H', J, q⟩ := hs
    exact fin (v := V.non) (u := Value.none) J rfl q
  | brk =>
    obtain ⟨_, _, _, q⟩ := hs
    exact False.elim q
  | cont =>
    obtain ⟨_, _, _, q⟩ := hs
    exact False.elim q

/-- a def of the text, found (HandS.Defaults' FunD, no defaults) -/
abbrev FnP (K : PySem.W.Frag) (x qual : Str) (st : Stmt) (f : Addr) (fd : FuncData) : Prop := FunD K x qual (defArgs st) (defBody st) (defScope st) [] [] f fd
theorem FnP.okX {CX : CXT} {P : Program} {w : World} {K : PySem.W.Frag} {mg : Str → Option Value} {base : Heap} {g h : Bool} {k : Nat} {x qual : Str} {st : Stmt} {f : Addr} {fd : FuncData} {N ps : List Str} {sp : Sp} (F : FnP K x qual st f fd) (S : FnScope N ps (defScope st))
    (len : ∀ vs H Q E, sp vs H Q E → vs.length = ps.length)
    (hbody : ∀ (cdv : Value) (A : Around) (outer : List Env) (s : Shared) (H : Hp) (vs : List V) (Q : VK) (E : XK) (p : Addr × Obj), Cxt (cxX CX P w K mg base N qual (defScope st) f cdv A outer s H E h p) g h k p → sp vs H Q E →
      ∃ t, PSs (cxX CX P w K mg base N qual (defScope st) f cdv A outer s H E h p) (defBody st) t ∧ t { nx := fun _ H' => Q .non H', rt := Q } (L2.start N vs) H) : FnX P w K mg base CX g h (k + 1) f fd ps sp := by
  obtain ⟨oc, od, dV, kV, doc, pm, an, cdv, ct, osl, rfl, lk, hcd, _, _⟩ := F.ex
  exact fn_ofX lk hcd S len fun A outer s H vs Q E p c hsp => hbody cdv A outer s H vs Q E p c hsp

/-! ### calls -/
section
variable {X : Cx} {CX : CXT} {g g' h : Bool} {k : Nat} {f C p0 : Addr} {fd : FuncData} {ps : List Str} {sp : Sp} {E : XK} {x m : Str} {q pos apos : Pos} {e o : Expr} {es : List Expr} {ta : TE} {t : TA} {p : Addr × Obj}
theorem pinok {pins : List (Addr × Obj)} {σ : St} {H : Hp} {s : Shared} (I : Inv X pins σ H s) (hp : p ∈ X.pn) : PinOk X.stack H s p := by
  have P1 := I.pin p (List.mem_append_left _ hp)
  exact ⟨P1.1, P1.2.1, fun hm => (List.mem_cons.mp (I.stkSub p.1 hm)).elim P1.2.2.1 P1.2.2.2.1, P1.2.2.2.2⟩
theorem run_fnX {pins : List (Addr × Obj)} {σ : St} {H : Hp} {s : Shared} {Q : VK} {us : List Value} {vs : List V} {E : St → XK} (F : FnX X.prog X.w X.K X.mg X.base CX g' h k f fd ps sp) (c : Cxt X g h k p) (hg : g' = true → g = true) (hb : Binds X.K fd ps []) (hx : PassesAt CX X σ (E σ))
    (I : Inv X pins σ H s) (r : Vals vs us) (hq : sp vs H Q (E σ)) : wpAny (model X.prog X.w) X.A (call (.ref f) us) (EP X pins σ Q) X.xe s := by
  have hl : us.length = ps.length := by rw [← r.length]; exact F.len _ _ _ _ hq
  have b := hb s us I.kIn (by rw [List.append_nil]; exact hl)
  rw [List.append_nil] at b
  refine wpAny_call (codeAny_mono (F.run X.A X.stack s H ⟨us, []⟩ us vs Q (E σ) p (c.rm.less hg) (fun z => pinok I (c.pin z)) I.env0 b r hq) fun r s' hq => ?_)
  cases r with
  | error e => exact hx pins H s e s' I hq
  | ok fl =>
    cases fl with
    | ret u => exact I.after hq
    | next => exact False.elim hq
    | brk => exact False.elim hq
    | cont => exact False.elim hq
theorem at0 {X : Cx} {σ : St} : PassesAt CX0 X σ E0 := fun _ _ _ _ _ _ z => z.elim
/-- f(e, ..) -/
theorem pe_callX {E : St → XK} (F : FnX X.prog X.w X.K X.mg X.base CX g' h k f fd ps sp) (c : Cxt X g h k p) (hgl : g' = true → g = true) (hg : Gl X x) (hm : X.mg x = some (.ref f)) (hk : PySem.W.keepIn X.K (.ref f) = true) (hb : Binds X.K fd ps []) (hx : ∀ σ, PassesAt CX X σ (E σ))
    (ha : PA X (e :: es) t) (hdb : (x == ("__debug__" : Str)) = false := by decide) (he : starEach (e :: es) X.env = (false, eval e X.env) :: starEach es X.env := by rfl) (hpl : (backTo pos (starEach es X.env)).any (·.1) = false := by rfl) :
    PE X (.Call (.Name x q) (e :: es) [] pos) (tCallS sp E t) := by
  refine ⟨fun pins s σ H Q I hh => ?_⟩
  refine wpAny_Call_Name_kw (ld_glob I hg hm ?_ hdb)
  refine PySem.W.callWith_K (h₀ := X.base) I.ok.mod.kin hk (thn (ha.run pos pins s σ H _ I hh) fun us s1 ⟨vs, H1, I1, r, q⟩ => ⟨I1.kIn, ?_⟩) he hpl
  exact run_fnX F c hgl hb (hx σ) I1 r q
/-- e.f, a property -/
theorem pe_propX {E : St → XK} {pr : Addr} (he : PE X e ta) (cl : Cls X.K C) (hp : PropOf X.K C m pr f) (F : FnX X.prog X.w X.K X.mg X.base CX0 g' h k f fd ps sp) (c : Cxt X g h (k + 1) p) (hgl : g' = true → g = true) (hb : Binds X.K fd ps [])
    (hab : attributeBase e m X.env (eval e X.env) = eval e X.env) : PE X (.Attribute e m pos) (tProp C sp [] E0 ta) := by
  refine ⟨fun pins s0 σ H0 Q I0 hh => ?_⟩
  refine attr_of hab (thn (he.run pins s0 σ H0 _ I0 hh) fun u s ⟨xv, H, I, rx, a, dx, fs, ex, ea, hq⟩ => ?_)
  subst ex
  obtain rfl : u = Value.ref a := rx
  obtain ⟨mA, O, _, _, _, _⟩ := ins_get I.hok ea
  obtain ⟨od, J, _⟩ := O.look
  obtain ⟨rest, hrec⟩ := hp.rec_
  have I1 := I.tok (s.toks + 1)
  have hl : ([Value.ref a] ++ []).length = ps.length := by
    rw [← F.len _ _ _ _ hq]
    rfl
  have hc : (PySem.W.clsIn X.K C).isSome = true := by
    obtain ⟨cd, hc, _⟩ := PySem.W.any_some cl.hd
    rw [hc]
    rfl
  refine PySem.W.get_bind I.kIn J (PySem.W.plainGet_of (cl.get m)).1 (PySem.W.findObj_data hc hp.at_ hp.get hp.tak) (PySem.W.plainGet_of (cl.get m)).2 (wpAny_call (PySem.W.prop_get (s := { s with toks := s.toks + 1 }) I.kIn hrec ?_))
  refine codeAny_mono (F.run X.A.in1 X.stack { s with toks := s.toks + 1 } H ⟨[.ref a], []⟩ [.ref a] [.ref a] Q E0 p (c.rm.in1.less hgl) (fun z => pinok I1 (c.pin z)) I1.env0.in1 (hb _ [.ref a] I1.kIn hl) (.cons rfl .nil) hq) fun r s' hq => ?_
  cases r with
  | error er => exact False.elim hq
  | ok fl =>
    cases fl with
    | ret u =>
      obtain ⟨v, H', I3, rv, q3⟩ := I1.after hq
      show wpAny _ _ (handedOut u) _ _ _
      rw [PySem.W.handedOut_of (handed_of rv)]
      exact wpAny_pure ⟨v, H', I3, rv, q3⟩
    | next => exact False.elim hq
    | brk => exact False.elim hq
    | cont => exact False.elim hq
/-- C(e, ..), which raises nothing -/
theorem pe_makeX (M : Mk X.K C f) (F : FnX X.prog X.w X.K X.mg X.base CX0 g' h k f fd ps sp) (c : Cxt X g h (k + 1) p) (hgl : g' = true → g = true) (hg : Gl X x) (hm : X.mg x = some (.ref C)) (hb : Binds X.K fd ps [])
    (ha : PA X (e :: es) t) (hdb : (x == ("__debug__" : Str)) = false := by decide) (he : starEach (e :: es) X.env = (false, eval e X.env) :: starEach es X.env := by rfl) (hpl : (backTo pos (starEach es X.env)).any (·.1) = false := by rfl) :
    PE X (.Call (.Name x q) (e :: es) [] pos) (tMake C sp [] E0 t) := by
  refine ⟨fun pins s0 σ H0 Q I0 hh => ?_⟩
  refine wpAny_Call_Name_kw (ld_glob I0 hg hm ?_ hdb)
  refine PySem.W.callWith_K (h₀ := X.base) I0.ok.mod.kin M.kp (thn (ha.run pos pins s0 σ H0 _ I0 hh) fun us s ⟨vs, H, I, r, q⟩ => ⟨I.kIn, ?_⟩) he hpl
  have hq := q (s.heap.objs.size + 1) s.heap.objs.size (I.hok.fresh (Nat.le_succ _)) (I.hok.fresh (Nat.le_refl _)) (Nat.ne_of_lt (Nat.lt_succ_self _))
  rw [List.append_nil] at hq
  have I2 := Inv.made (C := C) I
  have r2 : Vals (V.ref (s.heap.objs.size + 1) :: vs) (Value.ref (s.heap.objs.size + 1) :: us) := .cons rfl r
  have hl : (Value.ref (s.heap.objs.size + 1) :: us ++ []).length = ps.length := by
    rw [List.append_nil, ← r2.length]
    exact F.len _ _ _ _ hq
  have b := hb _ (Value.ref (s.heap.objs.size + 1) :: us) I2.kIn hl
  rw [List.append_nil] at b
  refine wpAny_call (make_map (f := f) I.kIn M.makes M.init (beq_iff_eq.mp M.fn) (codeAny_mono (F.run _ X.stack _ _ ⟨Value.ref (s.heap.objs.size + 1) :: us, []⟩ (Value.ref (s.heap.objs.size + 1) :: us) _ _ E0 p ((c.rm.make C us []).less hgl)
    (fun z => pinok I2 (c.pin z)) (I2.env0.make C us []) b r2 hq) fun r s' hq' => ?_))
  cases r with
  | error e => exact hq'.elim
  | ok fl =>
    cases fl with
    | ret u =>
      obtain ⟨v, H', I3, rv, ev, q3⟩ := I2.after hq'
      subst ev
      exact ⟨rv, ⟨V.ref (s.heap.objs.size + 1), H', I3, rfl, q3⟩⟩
    | next => exact False.elim hq'
    | brk => exact False.elim hq'
    | cont => exact False.elim hq'
end
end Spf
end
section
set_option maxHeartbeats 4000000
/-! Own layer 2: the ends of iterators, unpacking, for loops and comprehensions in both modes. -/
namespace Spf
open PySem PySem.Spec PyProof.Rows L2 L2H HotX
section
variable {prog : Program} {w : World} {A : Around} {E : Value → Shared → Prop} {s : Shared}
theorem EndOk.in1 {hp : Heap} (h : EndOk A hp) : EndOk A.in1 hp := h
/-- carried over where the handled exception's object is kept -/
theorem EndOk.kept {hp hp' : Heap} (h : EndOk A hp) (k : ∀ x1 o vs, A.handled = some (.ref x1) → hp.get? x1 = some o → o.data = .fields vs → vs[2]? = some .none → hp'.get? x1 = some o) : EndOk A hp' := by
  rcases h with h | ⟨x1, hh, o, vs, e, d, c⟩
  · exact .inl h
  · exact .inr ⟨x1, hh, o, vs, k x1 o vs hh e d c, d, c⟩
theorem EndOk.push {hp : Heap} (h : EndOk A hp) (o : Obj) : EndOk A (hp.push o) := h.kept fun _ _ _ _ e _ _ => Heap.get?_push_of_some _ e
theorem raiseNew_any {α : Type} {a : Addr} {oe : Obj} {vs : Array Value} {Q : α → Shared → Prop} (hx : EndOk A s.heap) (hne : A.handled ≠ some (.ref a)) (ha : s.heap.get? a = some oe) (da : oe.data = .fields vs) (hi : 2 < vs.size)
    (hE : ∀ h', (∀ b o, b ≠ a → s.heap.get? b = some o → h'.get? b = some o) → (∃ o', h'.get? a = some o' ∧ o'.cls = oe.cls) → E (.ref a) { s with heap := h' }) : wpAny (model prog w) A (raiseNew (.ref a) : Sem α) Q E s := by
  rcases hx with hx | ⟨x1, hot⟩
  · simp only [raiseNew]
    refine wpAny_bind (wpAny_handled ?_)
    rw [hx]
    exact wpAny_bind (wpAny_pure (wpAny_throw (hE s.heap (fun b o _ e => e) ⟨oe, ha, rfl⟩)))
  · have hn : x1 ≠ a := fun z => hne (by rw [hot.1, z])
    refine raiseNew_hot hot hn ha da hi (hE _ (fun b o hb e => ?_) ⟨_, Heap.get?_update_self _ ha (Obj.isFreed_of_fields (Obj.data_mapFields da _)), Obj.cls_mapFields ..⟩)
    exact (Heap.get?_update_other _ _ (Ne.symm hb)).trans e
/-- an iterator's end: StopIteration is made and raised, and caught by pyNext -/
theorem stop_any {α : Type} {Q : α → Shared → Prop} (hx : EndOk A s.heap)
    (hE : ∀ h' a, (∀ b o, s.heap.get? b = some o → h'.get? b = some o) → (∃ o', h'.get? a = some o' ∧ o'.cls = .type "StopIteration") → E (.ref a) { s with heap := h' }) :
    wpAny (model prog w) A (newExc (.type "StopIteration") [] >>= fun e => (raiseNew e : Sem α)) Q E s := by
  refine wpAny_bind ?_
  simp only [newExc, newTuple]
  refine wpAny_bind (wpAny_newObj_type ?_ (by size_fits))
  refine wpAny_bind (m := firstArgMember _ _) (wpAny_of_eq (a := Value.none) (by first | rfl | (simp only [firstArgMember]; rfl)) ?_)
  refine wpAny_newObj_type ?_ (by size_fits)
  refine raiseNew_any ((hx.push _).push _) ?_ (Heap.get?_push_size _ rfl) rfl (by first | (simp; done) | (simp; omega) | (simp only [Array.size_append]; simp; omega)) fun h' k ⟨o', e', c'⟩ => ?_
  · intro z
    rcases hx with hx | ⟨x1, hh, o, vs, e, _⟩
    · rw [hx] at z; cases z
    · rw [hh] at z
      have z2 : x1 = _ := Value.ref.inj (Option.some.inj z)
      have := Heap.lt_size (Heap.get?_push_of_some { cls := .type "tuple", data := .seq [].toArray } e)
      rw [z2] at this
      exact absurd this (Nat.lt_irrefl _)
  · refine hE h' _ (fun b o e => k b o ?_ (Heap.get?_push_of_some _ (Heap.get?_push_of_some _ e))) ⟨o', e', c'⟩
    exact Nat.ne_of_lt (Heap.lt_size (Heap.get?_push_of_some _ e))
theorem caught_any {a : Addr} {o' : Obj} {Q : Option Value → Shared → Prop} {h' : Heap} (e : h'.get? a = some o') (c : o'.cls = .type "StopIteration") (q : Q none { s with heap := h' }) :
    wpAny (model prog w) A (do if ← isInstance (.ref a) (.type "StopIteration") then pure none else throw (.ref a)) Q E { s with heap := h' } :=
  wpAny_bind (wpAny_isInstance (T := "StopIteration") (b := true) ⟨_, e, c⟩ isSubtype_stop (wpAny_pure q))
theorem list_end_any {it l : Addr} {i : Nat} {items : Array Value} {Q : Option Value → Shared → Prop} (hh : EndOk A s.heap)
    (hit : s.heap.IsListIter it l i) (hl : s.heap.IsList l items) (hx : items[i]? = none)
    (hQ : ∀ h', Heap.ExtBut it s.heap h' → Q none { s with heap := h' }) : wpAny (model prog w) A (pyNext (.ref it)) Q E s := by
  obtain ⟨o, ho, hc, hd⟩ := id hit
  obtain ⟨ol, hol, _, nl, hdl⟩ := hl
  have hne : ∀ x1 o1 vs, A.handled = some (.ref x1) → s.heap.get? x1 = some o1 → o1.data = .fields vs → vs[2]? = some .none → x1 ≠ it := fun x1 o1 vs _ e1 d1 c1 z => by
    rw [z, ho] at e1; cases e1; rw [hd] at d1; cases d1; simp at c1
  unfold pyNext
  refine wpAny_bind (wpAny_attempt (wpAny_callSpecial?_slot (name := Str.ofString "__next__") hit.typeIs slot_listiter_next
    (wpAny_call_entry slot_listiter_next hit.typeIs entry_listiter_next ?_ (args_listiter_next _))))
  show wpAny _ _ (field (.ref it) 0 >>= _) _ _ s
  refine wpAny_bind (wpAny_field ho hd (x := .ref l) rfl ?_)
  show wpAny _ _ (if (Value.ref l == Value.none) = true then _ else _) _ _ s
  rw [if_neg (show ¬ ((Value.ref l == Value.none) = true) from Bool.false_ne_true)]
  show wpAny _ _ (field (.ref it) 1 >>= _) _ _ s
  refine wpAny_bind (wpAny_field ho hd (x := .int i 0) rfl ?_)
  show wpAny _ _ (seqItems? (.ref l) >>= _) _ _ s
  refine wpAny_bind (wpAny_seqItems hol hdl ?_)
  simp only [Int.toNat_natCast, hx]
  refine wpAny_bind (wpAny_rule (wpAny_bind (wpAny_setField ho hd (by simp) ?_)))
  refine stop_any (EndOk.in1 (hh.kept fun x1 o1 vs z e1 d1 c1 => ((Heap.SameBut.update ..).2 x1 (hne x1 o1 vs z e1 d1 c1)).trans e1)) fun h' a k ⟨o', e', c'⟩ => ?_
  refine wpAny_bind (wpAny_isInstance (T := "StopIteration") (b := true) ⟨_, e', c'⟩ isSubtype_stop ?_)
  exact wpAny_pure (hQ _ fun b ob hb e => k b ob (((Heap.SameBut.update ..).2 b hb).trans e))
theorem tup_end_any {it l : Addr} {i : Nat} {items : Array Value} {Q : Option Value → Shared → Prop} (hh : EndOk A s.heap)
    (hit : s.heap.IsTupleIter it l i) (hl : s.heap.IsTuple l items) (hx : items[i]? = none)
    (hQ : ∀ h', Heap.ExtBut it s.heap h' → Q none { s with heap := h' }) : wpAny (model prog w) A (pyNext (.ref it)) Q E s := by
  obtain ⟨o, ho, hc, hd⟩ := id hit
  obtain ⟨ol, hol, _, nl, hdl⟩ := hl
  have hne : ∀ x1 o1 vs, A.handled = some (.ref x1) → s.heap.get? x1 = some o1 → o1.data = .fields vs → vs[2]? = some .none → x1 ≠ it := fun x1 o1 vs _ e1 d1 c1 z => by
    rw [z, ho] at e1; cases e1; rw [hd] at d1; cases d1; simp at c1
  unfold pyNext
  refine wpAny_bind (wpAny_attempt (wpAny_callSpecial?_slot (name := Str.ofString "__next__") hit.typeIs F.slot_tuple_iterator_next
    (wpAny_call_entry F.slot_tuple_iterator_next hit.typeIs F.entry_tuple_iterator_next ?_ (F.args_tuple_iterator_next_1 _))))
  show wpAny _ _ (field (.ref it) 0 >>= _) _ _ s
  refine wpAny_bind (wpAny_field ho hd (x := .ref l) rfl ?_)
  show wpAny _ _ (if (Value.ref l == Value.none) = true then _ else _) _ _ s
  rw [if_neg (show ¬ ((Value.ref l == Value.none) = true) from Bool.false_ne_true)]
  show wpAny _ _ (field (.ref it) 1 >>= _) _ _ s
  refine wpAny_bind (wpAny_field ho hd (x := .int i 0) rfl ?_)
  show wpAny _ _ (seqItems? (.ref l) >>= _) _ _ s
  refine wpAny_bind (wpAny_seqItems hol hdl ?_)
  simp only [Int.toNat_natCast, hx]
  refine wpAny_bind (wpAny_rule (wpAny_bind (wpAny_setField ho hd (by simp) ?_)))
  refine stop_any (EndOk.in1 (hh.kept fun x1 o1 vs z e1 d1 c1 => ((Heap.SameBut.update ..).2 x1 (hne x1 o1 vs z e1 d1 c1)).trans e1)) fun h' a k ⟨o', e', c'⟩ => ?_
  refine wpAny_bind (wpAny_isInstance (T := "StopIteration") (b := true) ⟨_, e', c'⟩ isSubtype_stop ?_)
  exact wpAny_pure (hQ _ fun b ob hb e => k b ob (((Heap.SameBut.update ..).2 b hb).trans e))
theorem keys_end_any {it d : Addr} {i n ep : Nat} {od : Obj} {es : Array DictEntry} {Q : Option Value → Shared → Prop} (hh : EndOk A s.heap) (hit : s.heap.IsKeyIter it d i n ep) (hod : s.heap.get? d = some od) (hdd : od.data = .dict es ep)
    (hsz : es.size = n) (hge : n ≤ i) (hQ : ∀ h', Heap.ExtBut it s.heap h' → Q none { s with heap := h' }) : wpAny (model prog w) A (pyNext (.ref it)) Q E s := by
  obtain ⟨o, ho, hc, hd⟩ := id hit
  have hne : ∀ x1 o1 vs, A.handled = some (.ref x1) → s.heap.get? x1 = some o1 → o1.data = .fields vs → vs[2]? = some .none → x1 ≠ it := fun x1 o1 vs _ e1 d1 c1 z => by
    rw [z, ho] at e1; cases e1; rw [hd] at d1; cases d1; simp at c1
  unfold pyNext
  refine wpAny_bind (wpAny_attempt (wpAny_callSpecial?_slot (name := Str.ofString "__next__") hit.typeIs F.slot_dict_keyiterator_next
    (wpAny_call_entry F.slot_dict_keyiterator_next hit.typeIs F.entry_dict_keyiterator_next ?_ (F.args_dict_keyiterator_next_1 _))))
  refine wpAny_bind (wpAny_pure ?_)
  refine wpAny_bind ?_
  refine wpAny_bind ?_
  first | refine wpAny_bind (wpAny_typeNameOfWhole_keyiter hit.typeIs (wpAny_pure ?_)) | refine wpAny_bind (wpAny_typeNameOf_keyiter hit.typeIs (wpAny_pure ?_))
  refine wpAny_bind (wpAny_fieldsOf ho hd ?_)
  have hown : Builtin.Dict_items.ownsTuple "dict_keyiterator" = false := by decide
  simp only [hown, Bool.false_eq_true, if_false]
  show wpAny _ _ (if (Value.ref d == Value.none) = true then _ else _) _ _ s
  rw [if_neg (show ¬ ((Value.ref d == Value.none) = true) from Bool.false_ne_true)]
  refine wpAny_bind (wpAny_pure ?_)
  refine wpAny_bind (wpAny_dictEntries hod hdd ?_)
  rw [if_neg (by rw [hsz]; simp)]
  refine wpAny_bind (wpAny_pure ?_)
  refine wpAny_bind (wpAny_dictEpoch hod hdd ?_)
  rw [if_neg (by simp)]
  refine wpAny_pure ?_
  have hge' : es.size ≤ i := by rw [hsz]; exact hge
  simp only [show ¬ ((i : Int) < 0) from by omega, if_false, Int.toNat_natCast, Array.getElem?_eq_none hge']
  refine wpAny_bind ?_
  first | refine wpAny_bind (wpAny_typeNameOfWhole_keyiter hit.typeIs (wpAny_pure ?_)) | refine wpAny_bind (wpAny_typeNameOf_keyiter hit.typeIs (wpAny_pure ?_))
  show wpAny _ _ (setField (.ref it) 0 .none >>= _) _ _ s
  refine wpAny_bind (wpAny_setField ho hd (by simp) ?_)
  refine stop_any (EndOk.in1 (hh.kept fun x1 o1 vs z e1 d1 c1 => ((Heap.SameBut.update ..).2 x1 (hne x1 o1 vs z e1 d1 c1)).trans e1)) fun h' a k ⟨o', e', c'⟩ => ?_
  refine wpAny_bind (wpAny_isInstance (T := "StopIteration") (b := true) ⟨_, e', c'⟩ isSubtype_stop ?_)
  exact wpAny_pure (hQ _ fun b ob hb e => k b ob (((Heap.SameBut.update ..).2 b hb).trans e))
theorem range_end_any {it : Addr} {x left step : Int} {Q : Option Value → Shared → Prop} (hh : EndOk A s.heap) (hit : IsRangeIter s.heap it x left step) (hleft : left ≤ 0)
    (hQ : ∀ h', Heap.ExtBut it s.heap h' → Q none { s with heap := h' }) : wpAny (model prog w) A (pyNext (.ref it)) Q E s := by
  rcases hh with hh | ⟨x1, hot⟩
  · exact wpAny_pyNext_range_end hh hit hleft fun h' eb => hQ h' eb
  · exact pyNext_range_end_hot hot hit hleft fun h' k => hQ h' fun b o _ e => k b o e
theorem unpack_tup_any {t : Addr} {items : Array Value} {Q : List Value → Shared → Prop} (hh : EndOk A s.heap) (ht : IsTup s.heap t items)
    (hQ : ∀ h', Heap.ExtBut s.heap.objs.size s.heap h' → Q items.toList { s with heap := h' }) : wpAny (model prog w) A (unpackItems (.ref t) items.size none) Q E s := by
  have hlt : t ≠ s.heap.objs.size := by obtain ⟨o, ho, _⟩ := ht; exact Nat.ne_of_lt (Heap.lt_size ho)
  unfold unpackItems
  refine wpAny_bind ?_
  unfold notIterableAtAll
  refine wpAny_bind (wpAny_specialOf ht.typeIs slot_tuple_iter.lookup ?_)
  refine wpAny_pure ?_
  simp only [Bool.false_eq_true, if_false]
  refine wpAny_bind (wpAny_holding (iter_tuple ht ?_))
  refine wpAny_bind (wpAny_holding (draw_tuple hlt items.size 0 _ _ ⟨_, Heap.get?_push_size _ rfl, rfl, rfl⟩ (ht.push _) (by omega) fun h₁ hit₁ hs₁ => ?_))
  have hall : List.take items.size (List.drop 0 items.toList) = items.toList := by
    rw [List.drop_zero]; exact List.take_of_length_le (by simp)
  rw [hall]
  rw [if_neg (by simp)]
  have ht₁ : IsTup h₁ t items := (ht.push _).extBut hs₁.extBut hlt
  refine wpAny_bind (wpAny_holding (tup_end_any (hh.kept fun x1 o vs z e d c => ?_) hit₁ ht₁ (by simp) fun h₂ he₂ => ?_))
  · exact (hs₁.2 x1 (Nat.ne_of_lt (Heap.lt_size e))).trans (Heap.get?_push_of_some _ e)
  simp only [Option.isSome_none, Bool.false_eq_true, if_false]
  refine wpAny_pure (hQ h₂ fun b o hb e => he₂ b o hb (hs₁.extBut b o hb (Heap.get?_push_of_some _ e)))
theorem unpack_list_any {l : Addr} {items : Array Value} {Q : List Value → Shared → Prop} (hh : EndOk A s.heap) (hl : s.heap.IsList l items)
    (hQ : ∀ h', Heap.ExtBut s.heap.objs.size s.heap h' → Q items.toList { s with heap := h' }) : wpAny (model prog w) A (unpackItems (.ref l) items.size none) Q E s := by
  have hlt : l ≠ s.heap.objs.size := by obtain ⟨o, ho, _⟩ := hl; exact Nat.ne_of_lt (Heap.lt_size ho)
  unfold unpackItems
  refine wpAny_bind ?_
  unfold notIterableAtAll
  refine wpAny_bind (wpAny_specialOf hl.typeIs slot_list_iter.lookup ?_)
  refine wpAny_pure ?_
  simp only [Bool.false_eq_true, if_false]
  refine wpAny_bind (wpAny_holding (wpAny_pyIter_list hl ?_))
  refine wpAny_bind (wpAny_holding (PySem.W.kun_draw hlt items.size 0 _ _ ⟨_, Heap.get?_push_size _ rfl, rfl, rfl⟩ (hl.push _) (by omega) fun h₁ hit₁ hs₁ => ?_))
  have hall : List.take items.size (List.drop 0 items.toList) = items.toList := by
    rw [List.drop_zero]; exact List.take_of_length_le (by simp)
  rw [hall]
  rw [if_neg (by simp)]
  have hl₁ : h₁.IsList l items := (hl.push _).extBut hs₁.extBut hlt
  refine wpAny_bind (wpAny_holding (list_end_any (hh.kept fun x1 o vs z e d c => ?_) hit₁ hl₁ (by simp) fun h₂ he₂ => ?_))
  · exact (hs₁.2 x1 (Nat.ne_of_lt (Heap.lt_size e))).trans (Heap.get?_push_of_some _ e)
  simp only [Option.isSome_none, Bool.false_eq_true, if_false]
  refine wpAny_pure (hQ h₂ fun b o hb e => he₂ b o hb (hs₁.extBut b o hb (Heap.get?_push_of_some _ e)))
end
/-! ### targets -/
section
variable {X : Cx} {pos : Pos}
theorem pg_tupX {es : List Expr} {k : Nat} {t : TGs} {n : Nat} (hc : Md X) (h : PGs X es t)
    (hn : (assignEach es X.env).length = n := by rfl) (hst : (assignEach es X.env).findIdx? (·.1) = none := by rfl) : PG X (.Tuple es k pos) (gTup X.K n t) := by
  refine ⟨fun pins s σ H v u Q I r hw => ?_⟩
  obtain ⟨a, xs, e1, hq, hl, hw⟩ := hw
  subst e1
  cases r
  obtain ⟨its, rv, ht, hz⟩ := I.tuple hq
  have hn' : (assignEach es X.env).length = its.toArray.size := hn.trans (hl.symm.trans (rv.length.trans (by simp)))
  rw [PyProof.Rows.assign_Tuple]
  refine wpAny_bind (wpAny_standAt ?_)
  unfold unpack
  rw [hn', hst]
  refine wpAny_bind (wpAny_holding (unpack_tup_any (hc.at I) ht fun h' hx => ?_))
  have I1 : Inv X pins σ H { s with heap := h' } := I.kept (t' := s.toks) fun b o e => hx b o (Nat.ne_of_lt (Heap.lt_size e)) e
  exact h.run pins _ σ H xs _ Q I1 (by simpa using rv) hw
theorem pg_unlX {es : List Expr} {k : Nat} {t : TGs} {n : Nat} (hc : Md X) (h : PGs X es t)
    (hn : (assignEach es X.env).length = n := by rfl) (hst : (assignEach es X.env).findIdx? (·.1) = none := by rfl) : PG X (.Tuple es k pos) (gUnl X.K n t) := by
  refine ⟨fun pins s σ H v u Q I r hw => ?_⟩
  obtain ⟨a, xs, e1, hq, hl, hw⟩ := hw
  subst e1
  cases r
  obtain ⟨its, rv, pl, hz⟩ := I.list hq
  have hl' : s.heap.IsList a its.toArray := by
    obtain ⟨o, m, e, c, d, q⟩ := pl
    exact ⟨o, e, c, m, q⟩
  have hn' : (assignEach es X.env).length = its.toArray.size := hn.trans (hl.symm.trans (rv.length.trans (by simp)))
  rw [PyProof.Rows.assign_Tuple]
  refine wpAny_bind (wpAny_standAt ?_)
  unfold unpack
  rw [hn', hst]
  refine wpAny_bind (wpAny_holding (unpack_list_any (hc.at I) hl' fun h' hx => ?_))
  have I1 : Inv X pins σ H { s with heap := h' } := I.kept (t' := s.toks) fun b o e => hx b o (Nat.ne_of_lt (Heap.lt_size e)) e
  exact h.run pins _ σ H xs _ Q I1 (by simpa using rv) hw
end
/-! ### walks -/
/-- an iterator's turns, in either mode -/
structure TurnX (P : Program) (w : World) (K : PySem.W.Frag) (tg : Expr) (J : It) (fp : List Addr) (it : Addr) (tn : Nat → Heap → Prop) : Prop where
  mem : it ∈ fp
  obj : ∀ i h, tn i h → ∀ b ∈ fp, ∃ o, h.get? b = some o ∧ ∀ v, o.data ≠ .cell v
  keep : ∀ i h h', tn i h → (∀ b ∈ fp, ∀ o, h.get? b = some o → h'.get? b = some o) → tn i h'
  item : ∀ (X : Cx), X.prog = P → X.w = w → X.K = K → ∀ (i : Nat) (pins : List (Addr × Obj)) (s : Shared) (σ : St) (H : Hp) (E : Value → Shared → Prop), Inv X pins σ H s → (∀ b ∈ fp, FpOk X pins H b) → tn i s.heap → J.go i H →
    wpAny (model P w) X.A (pyNext (.ref it)) (fun r s1 => ∃ u, r = some u ∧
      wpAny (model P w) X.A (letOwnedTupleGo tg (.ref it) u) (fun _ s2 => ∃ x H', Inv X pins σ H' s2 ∧ RelV x u ∧ J.yld i H x H' ∧ tn (i + 1) s2.heap ∧ ∀ b ∈ fp, H' b = none) E s1) E s
  done : ∀ (X : Cx), X.prog = P → X.w = w → X.K = K → ∀ (i : Nat) (pins : List (Addr × Obj)) (s : Shared) (σ : St) (H : Hp) (E : Value → Shared → Prop), Inv X pins σ H s → EndOk X.A s.heap → (∀ b ∈ fp, FpOk X pins H b) → tn i s.heap → J.stop i H →
    wpAny (model P w) X.A (pyNext (.ref it)) (fun r s1 => r = none ∧ Inv X pins σ H s1) E s
  self : ∀ (A : Around) (i : Nat) (s : Shared) (Q : Value → Shared → Prop) (E : Value → Shared → Prop), tn i s.heap → Q (.ref it) s → wpAny (model P w) A (pyIter (.ref it)) Q E s
/-- a turn of the library's, its end told anew. item in the library asks for calm; a calm shadow of the context gives it -/
theorem TurnX.of {P : Program} {w : World} {K : PySem.W.Frag} {tg : Expr} {J : It} {fp : List Addr} {it : Addr} {tn : Nat → Heap → Prop} (T : Turn P w K tg J fp it tn)
    (item : ∀ (X : Cx), X.prog = P → X.w = w → X.K = K → ∀ (i : Nat) (pins : List (Addr × Obj)) (s : Shared) (σ : St) (H : Hp) (E : Value → Shared → Prop), Inv X pins σ H s → (∀ b ∈ fp, FpOk X pins H b) → tn i s.heap → J.go i H →
    wpAny (model P w) X.A (pyNext (.ref it)) (fun r s1 => ∃ u, r = some u ∧
      wpAny (model P w) X.A (letOwnedTupleGo tg (.ref it) u) (fun _ s2 => ∃ x H', Inv X pins σ H' s2 ∧ RelV x u ∧ J.yld i H x H' ∧ tn (i + 1) s2.heap ∧ ∀ b ∈ fp, H' b = none) E s1) E s)
    (done : ∀ (X : Cx), X.prog = P → X.w = w → X.K = K → ∀ (i : Nat) (pins : List (Addr × Obj)) (s : Shared) (σ : St) (H : Hp) (E : Value → Shared → Prop), Inv X pins σ H s → EndOk X.A s.heap → (∀ b ∈ fp, FpOk X pins H b) → tn i s.heap → J.stop i H →
    wpAny (model P w) X.A (pyNext (.ref it)) (fun r s1 => r = none ∧ Inv X pins σ H s1) E s) : TurnX P w K tg J fp it tn := ⟨T.mem, T.obj, T.keep, item, done, T.self⟩
theorem turnX_list {P : Program} {w : World} {K : PySem.W.Frag} {tg : Expr} (a it : Addr) : TurnX P w K tg (Itl K a) [it] it (fun i h => h.IsListIter it a i) := by
  refine TurnX.of (turn_list a it) ?_ ?_
  · intro X hP hw hK i pins s σ H E I hf st hg
    subst hP hw hK
    obtain ⟨xs, x, hq, hx⟩ := hg
    obtain ⟨its, rv, p, hz⟩ := I.list hq
    obtain ⟨u, hu, ru⟩ := rv.get hx
    obtain ⟨f0, f1, f2, f3, f4, f5⟩ := hf it (by simp)
    refine wpAny_pyNext_list_item st p.isList (x := u) (by simpa using hu) fun h' st' sb => ?_
    have I1 : Inv X pins σ H { s with heap := h' } := I.turned (t' := s.toks) (fun b o hb e => (sb.2 b hb).trans e) f0 f1 f3 f4 f5
    obtain ⟨o, e, c, d⟩ := id st'
    exact ⟨u, rfl, go_of (s := { s with heap := h' }) e c d (by decide) ⟨x, H, I1, ru, ⟨rfl, fun ys hy => by rw [I.list_inj hy hq]; exact hx⟩, st', fun b hb => (hf b hb).1⟩⟩
  · intro X hP hw hK i pins s σ H E I hk hf st hg
    subst hP hw hK
    obtain ⟨xs, hq, hx⟩ := hg
    obtain ⟨its, rv, p, hz⟩ := I.list hq
    obtain ⟨f0, f1, f2, f3, f4, f5⟩ := hf it (by simp)
    have hl := rv.length
    exact list_end_any hk st p.isList (by simp; omega) fun h' eb => ⟨rfl, I.turned (t' := s.toks) (fun b o hb e => eb b o hb e) f0 f1 f3 f4 f5⟩
theorem turnX_tup {P : Program} {w : World} {K : PySem.W.Frag} {tg : Expr} (a it : Addr) : TurnX P w K tg (Itt K a) [it] it (fun i h => h.IsTupleIter it a i) := by
  refine TurnX.of (turn_tuple a it) ?_ ?_
  · intro X hP hw hK i pins s σ H E I hf st hg
    subst hP hw hK
    obtain ⟨xs, x, hq, hx⟩ := hg
    obtain ⟨its, rv, p, hz⟩ := I.tuple hq
    obtain ⟨u, hu, ru⟩ := rv.get hx
    obtain ⟨f0, f1, f2, f3, f4, f5⟩ := hf it (by simp)
    refine wpAny_pyNext_tuple_item st (show s.heap.IsTuple a its.toArray from p) (x := u) (by simpa using hu) fun h' st' sb => ?_
    have I1 : Inv X pins σ H { s with heap := h' } := I.turned (t' := s.toks) (fun b o hb e => (sb.2 b hb).trans e) f0 f1 f3 f4 f5
    obtain ⟨o, e, c, d⟩ := id st'
    exact ⟨u, rfl, go_of (s := { s with heap := h' }) e c d (by decide) ⟨x, H, I1, ru, ⟨rfl, fun ys hy => by rw [I.tuple_inj hy hq]; exact hx⟩, st', fun b hb => (hf b hb).1⟩⟩
  · intro X hP hw hK i pins s σ H E I hk hf st hg
    subst hP hw hK
    obtain ⟨xs, hq, hx⟩ := hg
    obtain ⟨its, rv, p, hz⟩ := I.tuple hq
    obtain ⟨f0, f1, f2, f3, f4, f5⟩ := hf it (by simp)
    have hl := rv.length
    exact tup_end_any hk st (show s.heap.IsTuple a its.toArray from p) (by simp; omega) fun h' eb => ⟨rfl, I.turned (t' := s.toks) (fun b o hb e => eb b o hb e) f0 f1 f3 f4 f5⟩
theorem turnX_range {P : Program} {w : World} {K : PySem.W.Frag} {tg : Expr} (it : Addr) (lo : Int) (n : Nat) : TurnX P w K tg (Itr lo n) [it] it (fun i h => IsRangeIter h it (lo + (i : Nat) * 1) ((n : Int) - (i : Nat)) 1) := by
  refine TurnX.of (turn_range it lo n) ?_ ?_
  · intro X hP hw hK i pins s σ H E I hf st hg
    subst hP hw hK
    obtain ⟨f0, f1, f2, f3, f4, f5⟩ := hf it (by simp)
    have hg' : i < n := hg
    refine wpAny_pyNext_range_item st (by omega) fun h' st' sb => ?_
    have I1 : Inv X pins σ H { s with heap := h', toks := s.toks + 1 } := I.turned (fun b o hb e => (sb.2 b hb).trans e) f0 f1 f3 f4 f5
    have e1 : lo + ((i : Nat) : Int) * 1 + 1 = lo + ((i + 1 : Nat) : Int) * 1 := by simp only [Int.mul_one]; omega
    have e2 : (n : Int) - ((i : Nat) : Int) - 1 = (n : Int) - ((i + 1 : Nat) : Int) := by omega
    rw [e1, e2] at st'
    exact ⟨_, rfl, go_of (s := { s with heap := h', toks := s.toks + 1 }) (n := "range_iterator") st' rfl rfl (by decide) ⟨.int (lo + i), H, I1, ⟨s.toks, by rw [Int.mul_one]⟩, ⟨rfl, rfl⟩, st', fun b hb => (hf b hb).1⟩⟩
  · intro X hP hw hK i pins s σ H E I hk hf st hg
    subst hP hw hK
    obtain ⟨f0, f1, f2, f3, f4, f5⟩ := hf it (by simp)
    exact range_end_any hk st (by have : n ≤ i := hg; omega) fun h' eb => ⟨rfl, I.turned (t' := s.toks) (fun b o hb e => eb b o hb e) f0 f1 f3 f4 f5⟩
theorem turnX_keys {P : Program} {w : World} {K : PySem.W.Frag} {tg : Expr} {d : Addr} {o : Obj} {es : Array DictEntry} {ep : Nat} {kvs : List (Key × V)} (it : Addr) (hod : o.data = .dict es ep) : TurnX P w K tg (Itk d o kvs) [it] it (fun i h => h.IsKeyIter it d i kvs.length ep) := by
  refine TurnX.of (turn_keys it hod) ?_ ?_
  · intro X hP hw hK i pins s σ H E I hf st hg
    subst hP hw hK
    obtain ⟨hd, hi⟩ := hg
    obtain ⟨f0, f1, f2, f3, f4, f5⟩ := hf it (by simp)
    obtain ⟨hs, hgd, hx, es', ep', vs, hdt, hsz, kv, hm⟩ := I.frzK hd
    obtain ⟨rfl, rfl⟩ := dict_ep hod hdt
    obtain ⟨⟨k, v⟩, hkv⟩ : ∃ p, kvs[i]? = some p := ⟨kvs[i], List.getElem?_eq_getElem hi⟩
    obtain ⟨u, hu, ru⟩ := kv_get kv hkv
    have hl : kvs.length = vs.length := Paired.length kv
    rw [hl] at st
    refine wpAny_pyNext_dict_item st hm hu fun key h' hkey st' sb => ?_
    have I1 : Inv X pins σ H { s with heap := h' } := I.turned (t' := s.toks) (fun b ob hb e => (sb.2 b hb).trans e) f0 f1 f3 f4 f5
    obtain ⟨oi, e, c, dd⟩ := id st'
    refine ⟨key, rfl, go_of (s := { s with heap := h' }) e c dd (by decide) ⟨kV k, H, I1, relV_key (show keyIs k key = true from hkey), ⟨rfl, k, v, hkv, rfl⟩, ?_, fun b hb => (hf b hb).1⟩⟩
    show h'.IsKeyIter it d (i + 1) kvs.length _
    rw [hl]
    exact st'
  · intro X hP hw hK i pins s σ H E I hk hf st hg
    subst hP hw hK
    obtain ⟨hd, hi⟩ := hg
    obtain ⟨f0, f1, f2, f3, f4, f5⟩ := hf it (by simp)
    obtain ⟨hs, hgd, hx, es', ep', vs, hdt, hsz, kv, hm⟩ := I.frzK hd
    obtain ⟨rfl, rfl⟩ := dict_ep hod hdt
    exact keys_end_any hk st hgd hdt hsz hi fun h' eb => ⟨rfl, I.turned (t' := s.toks) (fun b ob hb e => eb b ob hb e) f0 f1 f3 f4 f5⟩
/-- an iterator has come -/
def PIEX (X : Cx) (pins : List (Addr × Obj)) (σ : St) (tg : Expr) (R : It → Hp → Prop) (itv : Value) (s2 : Shared) : Prop :=
  ∃ (it : Addr) (fp : List Addr) (tn : Nat → Heap → Prop) (J : It) (H' : Hp), itv = .ref it ∧ Inv X pins σ H' s2 ∧ TurnX X.prog X.w X.K tg J fp it tn ∧ tn 0 s2.heap ∧ (∀ b ∈ fp, FpOk X pins H' b) ∧ R J H'
structure PIX (X : Cx) (tg iter : Expr) (wi : TI) : Prop where
  run : ∀ (pins : List (Addr × Obj)) (s : Shared) (σ : St) (H : Hp) (R : It → Hp → Prop), Inv X pins σ H s → wi σ H R →
    wpAny (model X.prog X.w) X.A (eval iter X.env) (fun v s1 => wpAny (model X.prog X.w) X.A (pyIter v) (PIEX X pins σ tg R) X.xe s1) X.xe s
section
variable {X : Cx} {tg : Expr}
theorem pi_listX {l : Expr} {tl : TE} (hl : PE X l tl) : PIX X tg l (iList X.K tl) := by
  refine ⟨fun pins s σ H R I h => ?_⟩
  refine thn (hl.run pins s σ H _ I h) fun v s1 ⟨x, H1, I1, r1, q1⟩ => ?_
  obtain ⟨a, e, ⟨xs, hq⟩, q⟩ := q1
  subst e
  cases r1
  obtain ⟨its, rv, p, hz⟩ := I1.list hq
  refine wpAny_pyIter_list p.isList ?_
  refine ⟨s1.heap.objs.size, [s1.heap.objs.size], _, _, H1, rfl, I1.kept (t' := s1.toks) fun b o e => Heap.get?_push_of_some _ e, turnX_list a _, ⟨_, Heap.get?_push_size _ rfl, rfl, rfl⟩, fun b hb => ?_, q⟩
  have e : b = s1.heap.objs.size := by simpa using hb
  subst e
  exact I1.fpOk (Nat.le_refl _) (I1.hok.fresh (Nat.le_refl _))
theorem pi_tupX {l : Expr} {tl : TE} (hl : PE X l tl) : PIX X tg l (iTup X.K tl) := by
  refine ⟨fun pins s σ H R I h => ?_⟩
  refine thn (hl.run pins s σ H _ I h) fun v s1 ⟨x, H1, I1, r1, q1⟩ => ?_
  obtain ⟨a, e, ⟨xs, hq⟩, q⟩ := q1
  subst e
  cases r1
  obtain ⟨its, rv, p, hz⟩ := I1.tuple hq
  refine wpAny_pyIter_tuple (show s1.heap.IsTuple a its.toArray from p) ?_
  refine ⟨s1.heap.objs.size, [s1.heap.objs.size], _, _, H1, rfl, I1.kept (t' := s1.toks) fun b o e => Heap.get?_push_of_some _ e, turnX_tup a _, ⟨_, Heap.get?_push_size _ rfl, rfl, rfl⟩, fun b hb => ?_, q⟩
  have e : b = s1.heap.objs.size := by simpa using hb
  subst e
  exact I1.fpOk (Nat.le_refl _) (I1.hok.fresh (Nat.le_refl _))
theorem range_itX {pins : List (Addr × Obj)} {σ : St} {H : Hp} {s : Shared} {R : It → Hp → Prop} {E : Value → Shared → Prop} {lo hi : Int} {t u v : Tok} {tk : Nat} (I : Inv X pins σ H s) (h1 : -(2 ^ 62) ≤ lo) (h2 : lo < 2 ^ 62) (h3 : -(2 ^ 62) ≤ hi) (h4 : hi < 2 ^ 62)
    (q : R (Itr lo (hi - lo).toNat) H) : wpAny (model X.prog X.w) X.A (pyIter (.ref s.heap.objs.size)) (PIEX X pins σ tg R) E { s with heap := s.heap.push { cls := .type "range", data := .fields #[.int lo t, .int hi u, .int 1 v] }, toks := tk } := by
  refine wpAny_pyIter_range (IsRange.new ..) (small_one h1 h2 h3 h4) ?_
  have I1 : Inv X pins σ H { s with heap := s.heap.push { cls := .type "range", data := .fields #[.int lo t, .int hi u, .int 1 v] }, toks := tk } := I.kept fun b o e => Heap.get?_push_of_some _ e
  refine ⟨(s.heap.push { cls := .type "range", data := .fields #[.int lo t, .int hi u, .int 1 v] }).objs.size, [(s.heap.push { cls := .type "range", data := .fields #[.int lo t, .int hi u, .int 1 v] }).objs.size], _, _, H, rfl,
    I1.kept (t' := tk) fun b o e => Heap.get?_push_of_some _ e, turnX_range _ lo (hi - lo).toNat, ?_, fun b hb => ?_, q⟩
  · have e1 : lo + ((0 : Nat) : Int) * 1 = lo := by simp
    have e2 : (((hi - lo).toNat : Nat) : Int) - ((0 : Nat) : Int) = Builtin.Range.rangeSize lo hi 1 := by rw [rangeSize_one]; split <;> omega
    show IsRangeIter _ _ (lo + ((0 : Nat) : Int) * 1) ((((hi - lo).toNat : Nat) : Int) - ((0 : Nat) : Int)) 1
    rw [e1, e2]
    exact Heap.get?_push_size _ rfl
  · have e : b = (s.heap.push { cls := .type "range", data := .fields #[.int lo t, .int hi u, .int 1 v] }).objs.size := by simpa using hb
    subst e
    exact I1.fpOk (Nat.le_refl _) (I1.hok.fresh (Nat.le_refl _))
theorem pi_range1X {a : Expr} {ta : TA} {p pos : Pos} (hg : Gl X "range") (hm : X.mg "range" = none) (ha : PA X [a] ta) (hs : starEach [a] X.env = [(false, eval a X.env)] := by rfl) : PIX X tg (.Call (.Name "range" p) [a] [] pos) (iRng1 ta) := by
  refine ⟨fun pins s σ H R I h => ?_⟩
  refine Call_ (ld_blt I hg hm boot_range (PyProof.Rows.callWith_type1 (thn (ha.run pos pins s σ H _ I h) fun us s1 ⟨vs, H1, I1, r1, q1⟩ => ?_) hs rfl))
  obtain ⟨j, e, q1, q2, q⟩ := q1
  subst e
  cases r1 with
  | cons r rr =>
    cases rr
    obtain ⟨t, rfl⟩ := r
    exact call_range_1 (range_itX I1 (by omega) (by omega) q1 q2 (by simpa using q))
theorem pi_keysX {e : Expr} {td : TE} (he : PE X e td) : PIX X tg e (iKeysM td) := by
  refine ⟨fun pins s σ H R I h => ?_⟩
  refine thn (he.run pins s σ H _ I h) fun v s1 ⟨x, H1, I1, r1, q1⟩ => ?_
  obtain ⟨d, o, kvs, rfl, hd, q⟩ := q1
  cases r1
  obtain ⟨hs, hgd, hx, es, ep, vs, hdt, hsz, kv, hm⟩ := I1.frzK hd
  refine iter_keys hs hgd hx hdt ?_
  have e0 : (es.size : Int) = (kvs.length : Nat) := by rw [hsz]
  refine ⟨s1.heap.objs.size, [s1.heap.objs.size], _, _, H1, rfl, I1.kept (t' := s1.toks) fun b o e => Heap.get?_push_of_some _ e, turnX_keys _ hdt, ?_, fun b hb => ?_, q⟩
  · rw [e0]
    exact ⟨_, Heap.get?_push_size _ rfl, rfl, rfl⟩
  · have e : b = s1.heap.objs.size := by simpa using hb
    subst e
    exact I1.fpOk (Nat.le_refl _) (I1.hok.fresh (Nat.le_refl _))
theorem ps_forX {iter : Expr} {body : List Stmt} {wi : TI} {g : TG} {tb : TS} {pos : Pos} (hp : PassesOwn (model X.prog X.w) X.A X.env X.xe) (hc : Md X) (hi : PIX X tg iter wi) (hg : PG X tg g) (hb : PSs X body tb)
    (hs : ∀ x, foldedSetIterable iter X.env x = pure x := by intro _; rfl) : PS X (.For tg iter body [] pos) (tFor wi g tb) := by
  refine ⟨fun pins s σ H D I h => ?_⟩
  refine wpAny_For (thn (hi.run pins s σ H _ I h) fun v s1 h1 => thn h1 fun itv s2 h2 => ?_) hs
  obtain ⟨it, fp, tn, J, H2, e, I2, T, st2, f2, W, ⟨m0, w0⟩, turn⟩ := h2
  subst e
  have stat : ∀ {H' : Hp}, (∀ b ∈ fp, H' b = none) → ∀ b ∈ fp, FpOk X pins H' b := fun hn b hb => ⟨hn b hb, (f2 b hb).2⟩
  refine codeAny_forLoop_any (fun n s' => ∃ i σ' H', Inv X pins σ' H' s' ∧ tn i s'.heap ∧ (∀ b ∈ fp, H' b = none) ∧ W i n σ' H') ?_ m0 ⟨0, σ, H2, I2, st2, fun b hb => (f2 b hb).1, w0⟩
  rintro n s3 ⟨i, σ3, H3, I3, st3, fr3, w3⟩
  rcases turn i n σ3 H3 w3 with ⟨stop, qn⟩ | ⟨go, N, hN, step⟩
  · refine wpAny_passesOwn hp (thn (T.done X rfl rfl rfl i pins s3 σ3 H3 X.xe I3 (hc.at I3) (stat fr3) st3 stop) fun r s4 ⟨hr, I4⟩ => ?_)
    subst hr
    exact wpAny_execs_nil ⟨σ3, H3, I4, qn⟩
  · refine wpAny_passesOwn hp (thn (T.item X rfl rfl rfl i pins s3 σ3 H3 X.xe I3 (stat fr3) st3 go) fun r s4 ⟨u, hr, h4⟩ => ?_)
    subst hr
    refine wpAny_passesOwn hp (thn h4 fun _ s5 ⟨x, H5, I5, r5, y5, st5, fr5⟩ => ?_)
    have I5' := I5.pinned (stat fr5) (T.obj _ _ st5)
    refine wpAny_passesOwn hp (thn (hg.run _ s5 σ3 H5 x u _ I5' r5 (step x H5 y5)) fun _ s6 ⟨σ6, H6, I6, q6⟩ => ?_)
    refine wpAny_passesOwn hp (thn (hb.run _ s6 σ6 H6 _ I6 q6) fun f s7 q7 => ?_)
    have again : ∀ {σ7 : St} {H7 : Hp}, Inv X (pins ++ pinsAt fp s5.heap) σ7 H7 s7 → N σ7 H7 → ∃ m, m < n ∧ ∃ i σ' H', Inv X pins σ' H' s7 ∧ tn i s7.heap ∧ (∀ b ∈ fp, H' b = none) ∧ W i m σ' H' := fun {σ7 H7} I7 n7 => by
      obtain ⟨m', hm, w7⟩ := hN σ7 H7 n7
      refine ⟨m', hm, i + 1, σ7, H7, I7.unpinned, T.keep _ _ _ st5 fun b hb o e => (I7.pin (b, o) (List.mem_append_right _ (List.mem_append_right _ (mem_pinsAt hb e)))).1, fun b hb => ?_, w7⟩
      obtain ⟨o, e, d⟩ := T.obj _ _ st5 b hb
      exact (I7.pin (b, o) (List.mem_append_right _ (List.mem_append_right _ (mem_pinsAt hb e)))).2.1
    cases f with
    | next => obtain ⟨σ7, H7, I7, n7⟩ := q7; exact again I7 n7
    | cont => obtain ⟨σ7, H7, I7, n7⟩ := q7; exact again I7 n7
    | brk => obtain ⟨σ7, H7, I7, q7⟩ := q7; exact ⟨σ7, H7, I7.unpinned, q7⟩
    | ret v => obtain ⟨x7, σ7, H7, I7, r7, q7⟩ := q7; exact ⟨x7, σ7, H7, I7.unpinned, r7, q7⟩
end
/-! ### comprehensions where an exception is handled -/
/-- a comprehension's block that bears the pins of its def -/
abbrev blkX (X : Cx) (s : Shared) (H : Hp) (scope : Scope) (cenv : Env) (fp : List Addr) : Cx := { X.blk s H scope cenv fp with pn := X.pn }
section
variable {X : Cx} {pins : List (Addr × Obj)} {σ : St} {H : Hp} {s : Shared}
theorem Md.blk {sH : Hp} {scope : Scope} {cenv : Env} {fp : List Addr} (m : Md X) : Md (blkX X s sH scope cenv fp) := m
theorem blkX_start {scope : Scope} {own : List (Str × Nat)} {fp : List Addr} (I : Inv X pins σ H s) (ok : BlkOk X.N X.env.scope scope own) (hN : X.N.Nodup) (hfp : ∀ b ∈ fp, FpOk X pins H b ∧ b < s.heap.objs.size) :
    Inv (blkX X s H scope (compEnvC scope (cellsFrom (s.heap.objs.size + 1) scope.names (cloFrom X.env.cells scope.names [])) s.heap.objs.size X.env) fp) [] (wipe σ (own.map (·.2))) H { s with heap := pushCells (s.heap.push { cls := .type "dict", data := .dict #[] }) scope.names } := by
  have B := block_start I ok hN hfp
  refine ⟨⟨B.ok.mod, B.ok.kind, B.ok.glob, B.ok.blt, B.ok.above, B.ok.inj, B.ok.has, B.ok.cab, B.ok.hd, B.ok.frames, B.ok.stk, B.ok.exf, B.ok.bs, B.ok.bsz, B.ok.noex, B.ok.exfs, B.ok.funs, B.ok.frf⟩, B.os, B.bare, B.base, B.loc, B.cell, B.free, B.freeC, fun p hp => ?_, B.hok, B.len⟩
  have hp' : p ∈ X.pn := by simpa using hp
  obtain ⟨e, n, ne, nf, d⟩ := I.pin p (List.mem_append_left _ hp')
  refine ⟨pushCells_keeps _ _ _ _ (Heap.get?_push_of_some _ e), n, ?_, fun z => ?_, d⟩
  · exact Nat.ne_of_lt (Heap.lt_size e)
  · exact (List.mem_cons.mp (I.stkSub p.1 z)).elim ne nf
end
section
variable {X : Cx}
theorem lcX_core {pins : List (Addr × Obj)} {s : Shared} {σ : St} {H : Hp} {Q : VK} {elt tg iter : Expr} {ifs : List Expr} {scope : Scope} {own : List (Str × Nat)} {pos pos' : Pos} {wi : TI} {g : TG} {tt : TT} {te : TE} {use : Option (Value → Sem Unit)} {Qf : Value → Shared → Prop}
    (hc : Md X) (hN : X.N.Nodup) (I : Inv X pins σ H s) (hi : PIX X tg iter wi) (ok : BlkOk X.N X.env.scope scope own)
    (hg : ∀ (s : Shared) (H : Hp) (C : Addr) (cl : List (Str × Addr)) (fp : List Addr), PG (blkX X s H scope (compEnvC scope cl C X.env) fp) tg g) (ht : ∀ (s : Shared) (H : Hp) (C : Addr) (cl : List (Str × Addr)) (fp : List Addr), PTs (blkX X s H scope (compEnvC scope cl C X.env) fp) ifs tt)
    (he : ∀ (s : Shared) (H : Hp) (C : Addr) (cl : List (Str × Addr)) (fp : List Addr), PE (blkX X s H scope (compEnvC scope cl C X.env) fp) elt te) (hs : ∀ x, foldedSetIterable iter X.env x = pure x)
    (h : tLc wi g tt te (own.map (·.2)) σ H Q)
    (hRR : ∀ D C s' m H', Inv X pins σ H' s' → Q (.ref D) H' → s'.heap.Ns C m → FpOk X pins H' C → compPost (model X.prog X.w) X.A X.xe use Qf (.ref D) C (.ok .next) s') :
    wpAny (model X.prog X.w) X.A (comprehension (.ListComp elt [⟨tg, iter, ifs, 0⟩] scope pos) scope X.env pos' (newList []) false (eval iter X.env) use) Qf X.xe s := by
  have hfree : ∀ y ∈ scope.names, y.2 = .free → ∃ c, X.env.cells.lookup y.1 = some c := fun y hy e => by
    rcases ok.free y hy e with k | k
    · exact I.ok.has _ (.inl k)
    · exact I.ok.has _ (.inr k)
  refine wpAny_comprehension_free (use := use) rfl hs (closure_ok hfree) ok.kind (fun y hy e => by rw [ok.uniq y hy, e])
    (thn (hi.run pins s σ H _ I h) fun xv s1 hx => thn hx fun itv s2 h2 => ?_)
  obtain ⟨it, fp, tn, J, H2, e, I2, T, st2, f2, q⟩ := h2
  subst e
  refine wpAny_newObj_type (newEnv_comp ?_) (by show 0 ≤ sizeLine; decide)
  generalize hD : s2.heap.objs.size = D
  have hDn : H2 D = none := I2.hok.fresh (Nat.le_of_eq hD)
  obtain ⟨W, ⟨m0, w0⟩, turn⟩ := q D hDn
  generalize hs3 : ({ s2 with heap := s2.heap.push { cls := .type "list", data := .seq ([] : List Value).toArray } } : Shared) = s3
  have I3 : Inv X pins σ (upd H2 D (.lst [])) s3 := by
    rw [← hs3]
    refine I2.laid (t' := s2.toks) (fun b o e => Heap.get?_push_of_some _ e) (Nat.le_of_eq hD) ⟨Nat.zero_le _, [], 0, .nil, ?_⟩
    rw [← hD]
    exact Heap.get?_push_size _ rfl
  have h3 : s3.heap = s2.heap.push { cls := .type "list", data := .seq ([] : List Value).toArray } := by rw [← hs3]
  have sz : ∀ b ∈ fp, b < s2.heap.objs.size := fun b hb => by
    obtain ⟨o, e, _⟩ := T.obj _ _ st2 b hb
    exact Heap.lt_size e
  have f3 : ∀ b ∈ fp, FpOk X pins (upd H2 D (.lst [])) b ∧ b < s3.heap.objs.size := fun b hb => by
    have hlt := sz b hb
    refine ⟨⟨?_, (f2 b hb).2⟩, by rw [h3, Heap.size_push]; exact Nat.lt_succ_of_lt hlt⟩
    rw [upd_ne (by rw [← hD]; exact Nat.ne_of_lt hlt)]
    exact (f2 b hb).1
  have st3 : tn 0 s3.heap := T.keep _ _ _ st2 fun b _ o e => by rw [h3]; exact Heap.get?_push_of_some _ e
  have I4 := blkX_start I3 ok hN f3
  have pg := hg s3 (upd H2 D (.lst [])) s3.heap.objs.size (cellsFrom (s3.heap.objs.size + 1) scope.names (cloFrom X.env.cells scope.names [])) fp
  have pt := ht s3 (upd H2 D (.lst [])) s3.heap.objs.size (cellsFrom (s3.heap.objs.size + 1) scope.names (cloFrom X.env.cells scope.names [])) fp
  have pe := he s3 (upd H2 D (.lst [])) s3.heap.objs.size (cellsFrom (s3.heap.objs.size + 1) scope.names (cloFrom X.env.cells scope.names [])) fp
  show codeAny _ _ (.compStart (.ListComp elt [⟨tg, iter, ifs, 0⟩] scope pos) 0 (.ref it) (.ref D) (compEnvC scope (cellsFrom (s3.heap.objs.size + 1) scope.names (cloFrom X.env.cells scope.names [])) s3.heap.objs.size X.env)) (compPost (model X.prog X.w) X.A X.xe use Qf (.ref D) s3.heap.objs.size) { s3 with heap := pushCells (s3.heap.push { cls := .type "dict", data := .dict #[] }) scope.names }
  have nfp : ∀ b ∈ fp, (upd H2 D (.lst [])) b = none := fun b hb => (f3 b hb).1.1
  generalize hce : compEnvC scope (cellsFrom (s3.heap.objs.size + 1) scope.names (cloFrom X.env.cells scope.names [])) s3.heap.objs.size X.env = ce at I4 pg pt pe ⊢
  have cL : ce.locals = s3.heap.objs.size := by subst hce; rfl
  generalize hH3 : upd H2 D (.lst []) = H3 at I3 I4 pg pt pe w0 nfp f3
  generalize hs4 : ({ s3 with heap := pushCells (s3.heap.push { cls := .type "dict", data := .dict #[] }) scope.names } : Shared) = s4 at I4 ⊢
  have st4 : tn 0 s4.heap := T.keep _ _ _ st3 fun b _ o e => by rw [← hs4]; exact pushCells_keeps _ _ _ _ (Heap.get?_push_of_some _ e)
  have hcb : Md (blkX X s3 H3 scope ce fp) := hc
  have stat : ∀ {σ' : St} {H' : Hp} {s' : Shared}, Inv (blkX X s3 H3 scope ce fp) [] σ' H' s' → tn 0 s3.heap → (∀ b ∈ fp, H' b = none) → ∀ b ∈ fp, FpOk (blkX X s3 H3 scope ce fp) [] H' b := fun {σ' H' s'} I' st hn b hb =>
    ⟨hn b hb, (I'.ok.exf b hb).1, I'.ok.exfs b hb, .inl hb, fun x c e => (I'.ok.exf b hb).2 x c e, fun p hp => (f3 b hb).1.2.2.2.2.2 p (List.mem_append_left _ (by simpa using hp))⟩
  have loop : codeAny (model X.prog X.w) X.A (.compLoop (.ListComp elt [⟨tg, iter, ifs, 0⟩] scope pos) 0 (.ref it) (.ref D) ce) (compPost (model X.prog X.w) X.A X.xe use Qf (.ref D) s3.heap.objs.size) s4 := by
    refine compLoop_any (fun n s' => ∃ i H', Inv (blkX X s3 H3 scope ce fp) [] (wipe σ (own.map (·.2))) H' s' ∧ tn i s'.heap ∧ (∀ b ∈ fp, H' b = none) ∧ W i n H') ?_ m0 ⟨0, H3, I4, st4, nfp, w0⟩
    rintro n s5 ⟨i, H5, I5, st5, n5, w5⟩
    rcases turn i n H5 w5 with ⟨stop, qq⟩ | ⟨go, Nx, hNx, step⟩
    · have td := T.done (blkX X s3 H3 scope ce fp) rfl rfl rfl i [] s5 _ H5 (fun _ _ => False) I5 (hcb.at I5) (stat I5 st3 n5) st5 stop
      refine thnF td fun r s6 ⟨hr, I6⟩ => ?_
      subst hr
      have I7 : Inv X pins σ H5 s6 := I3.call' (ch := fp) I6.os I6.base I6.hok I6.bare fun b hb => ⟨(f3 b hb).1.2.2.2.1, (f3 b hb).1.2.1, (f3 b hb).1.2.2.2.2.1, (f3 b hb).1.2.2.2.2.2⟩
      have nC : H5 s3.heap.objs.size = none := by
        have z : H5 ce.locals = none := I6.free
        rw [cL] at z
        exact z
      obtain ⟨m, hn, _⟩ := I6.loc
      have hn : s6.heap.Ns ce.locals m := hn
      rw [cL] at hn
      exact hRR D s3.heap.objs.size s6 m H5 I7 qq hn (I3.fpOk (Nat.le_refl _) nC)
    · have ti := T.item (blkX X s3 H3 scope ce fp) rfl rfl rfl i [] s5 _ H5 (fun _ _ => False) I5 (stat I5 st3 n5) st5 go
      refine thnF ti fun r s6 ⟨u, hr, h6⟩ => ?_
      subst hr
      refine thnF h6 fun _ s7 ⟨x, H7, I7, r7, y7, st7, n7⟩ => ?_
      have I7' := I7.pinned (stat I7 st3 n7) (T.obj _ _ st7)
      refine thnF (pg.run _ s7 _ H7 x u _ I7' r7 (step x H7 y7)) fun _ s8 ⟨σ8, H8, I8, hw8, q8⟩ => ?_
      refine thnF (pt.run _ s8 σ8 H8 _ I8 q8) fun b s9 ⟨H9, I9, q9⟩ => ?_
      have fin : ∀ {s' : Shared} {H' : Hp}, Inv (blkX X s3 H3 scope ce fp) ([] ++ pinsAt fp s7.heap) σ8 H' s' → Nx H' → ∃ m, m < n ∧ ∃ i H', Inv (blkX X s3 H3 scope ce fp) [] (wipe σ (own.map (·.2))) H' s' ∧ tn i s'.heap ∧ (∀ b ∈ fp, H' b = none) ∧ W i m H' := fun {s' H'} I' nx => by
        obtain ⟨m', hm, w'⟩ := hNx H' nx
        have pin' : ∀ b ∈ fp, ∀ o, s7.heap.get? b = some o → s'.heap.get? b = some o ∧ H' b = none := fun b hb o e =>
          let z := I'.pin (b, o) (List.mem_append_right _ (List.mem_append_right _ (mem_pinsAt hb e)))
          ⟨z.1, z.2.1⟩
        have hl : (wipe σ (own.map (·.2))).length = σ8.length := by rw [← hw8, wipe_length]
        refine ⟨m', hm, i + 1, H', (I'.unpinned (pins := [])).weak hl (fun j v e => ?_), T.keep _ _ _ st7 fun b hb o e => (pin' b hb o e).1, fun b hb => ?_, w'⟩
        · rw [← hw8] at e
          exact (wipe_some e).1
        · obtain ⟨o, e, _⟩ := T.obj _ _ st7 b hb
          exact (pin' b hb o e).2
      cases b with
      | false =>
        simp only [Bool.false_eq_true, if_false] at q9 ⊢
        exact fin I9 q9
      | true =>
        simp only [if_true] at q9 ⊢
        refine thnF (pe.run _ s9 σ8 H9 _ I9 q9) fun z s10 ⟨yv, H10, I10, r10, acc, hD10, hz10, nx⟩ => ?_
        exact app_ok (X := blkX X s3 H3 scope ce fp) I10 hD10 hz10 r10 fun s11 I11 => fin I11 nx
  exact codeAny_compStart_list loop (T.self X.A 0 _ _ _ st4 loop)
theorem pe_lcX {elt tg iter : Expr} {ifs : List Expr} {scope : Scope} {own : List (Str × Nat)} {pos : Pos} {wi : TI} {g : TG} {tt : TT} {te : TE} (hc : Md X) (hN : X.N.Nodup) (hi : PIX X tg iter wi) (ok : BlkOk X.N X.env.scope scope own)
    (hg : ∀ (s : Shared) (H : Hp) (C : Addr) (cl : List (Str × Addr)) (fp : List Addr), PG (blkX X s H scope (compEnvC scope cl C X.env) fp) tg g) (ht : ∀ (s : Shared) (H : Hp) (C : Addr) (cl : List (Str × Addr)) (fp : List Addr), PTs (blkX X s H scope (compEnvC scope cl C X.env) fp) ifs tt)
    (he : ∀ (s : Shared) (H : Hp) (C : Addr) (cl : List (Str × Addr)) (fp : List Addr), PE (blkX X s H scope (compEnvC scope cl C X.env) fp) elt te) (hs : ∀ x, foldedSetIterable iter X.env x = pure x := by intro _; rfl) :
    PE X (.ListComp elt [⟨tg, iter, ifs, 0⟩] scope pos) (tLc wi g tt te (own.map (·.2))) := by
  refine ⟨fun pins s σ H Q I h => ?_⟩
  rw [eval_ListComp]
  refine lcX_core hc hN I hi ok hg ht he hs h fun D C s' m H' I' q hn f => ⟨m, hn, fun h'' sb => ?_⟩
  obtain ⟨f0, f1, f2, f3, f4, f5⟩ := f
  exact ⟨.ref D, H', I'.turned (t' := s'.toks) (fun b o hb e => (sb.2 b hb).trans e) f0 f1 f3 f4 f5, rfl, q⟩
end
end Spf
end
section
set_option maxHeartbeats 4000000
/-! Own layer 3: with: both ways through an own __exit__. -/
namespace Spf
open PySem PySem.Spec PyProof.Rows L2 L2H HotX PySem.W
section
variable {prog : Program} {w : World} {A : Around} {E : Value → Shared → Prop} {s : Shared} {env : Env} {K : Frag} {x C fe fx : Addr} {ox : Obj} {od : Option Obj} {pos : Pos}
/-- what is asked behind a body that raised -/
def WithRaised (prog : Program) (w : World) (A : Around) (E : Value → Shared → Prop) (env : Env) (x fx : Addr) (Q : Flow → Shared → Prop) (e : Value) (s₄ : Shared) : Prop :=
  ∃ a, e = .ref a ∧ wpAny (model prog w) A (noteFrame e env) (fun _ s₅ => wpAny (model prog w) A (setFlight e none) (fun _ s₆ =>
    ∃ c tb, Looks (model prog w) s₆.heap (typeOf e) c ∧ Looks (model prog w) s₆.heap (tracebackOf e) tb ∧
      codeAny (model prog w) (A.mark (some e)) (.call (.ref fx) ⟨[.ref x, c, e, tb], []⟩) (fun r s' => match r with
        | .ok (.ret v) => v = .none ∧ wpAny (model prog w) A (passOn "with" e env : Sem Flow) Q E s'
        | .ok _ => False
        | .error _ => False) s₆) E s₅) E s₄
theorem with_core {b : Value → Sem Unit} {bdy : Sem Flow} {Q : Flow → Shared → Prop} (X : K.In s.heap) (I : InstAt s.heap x ox C od) (he : findIn K (.ref C) "__enter__" = some (some (.ref fe))) (hfe : isFn K (.ref fe) = true) (hx : findIn K (.ref C) "__exit__" = some (some (.ref fx))) (hfx : isFn K (.ref fx) = true)
    (h : wpAny (model prog w) A (call (.ref fe) [.ref x]) (fun v s₂ => wpAny (model prog w) A (b v >>= fun _ => bdy) (fun f s₄ => wpAny (model prog w) A (call (.ref fx) [.ref x, .none, .none, .none]) (fun _ s₅ => Q f s₅) E s₄) (WithRaised prog w A E env x fx Q) s₂) E s) :
    wpAny (model prog w) A (withItem false pos env (pure (.ref x)) (some b) bdy) Q E s := by
  obtain ⟨cd, hcd, ae⟩ := kw_along he
  obtain ⟨cd', hcd', ax⟩ := kw_along hx
  cases hcd.symm.trans hcd'
  obtain ⟨hh, g, d, tt, os⟩ := s
  have L1 : Looks (model prog w) hh (specialOnItsLine (.ref x) "__enter__") (some (.ref fe), cd.mro) := kw_special X I hcd ae
  have L2 : Looks (model prog w) hh (specialOnItsLine (.ref x) "__exit__") (some (.ref fx), cd.mro) := kw_special X I hcd ax
  have L3 : Looks (model prog w) hh (bindSpecial (.ref fe) (.ref x)) (.ref fe, [.ref x]) := bind_fn X _ (beq_iff_eq.mp hfe)
  have L4 : Looks (model prog w) hh (bindSpecial (.ref fx) (.ref x)) (.ref fx, [.ref x]) := bind_fn X _ (beq_iff_eq.mp hfx)
  have L5 : Looks (model prog w) hh (aMethodOfAnotherBuiltinTypeStops (.ref fe) cd.mro) () := Looks.of_pure rfl
  have L6 : Looks (model prog w) hh (aMethodOfAnotherBuiltinTypeStops (.ref fx) cd.mro) () := Looks.of_pure rfl
  unfold withItem
  refine wpAny_bind (wpAny_pure ?_)
  refine wpAny_bind (wpAny_standAt ?_)
  simp only [Bool.false_eq_true, if_false]
  kw_lk
  refine wpAny_mono h (fun v s₂ h₂ => ?_) fun _ _ z => z
  kw_lk
  refine wpAny_attempt (kw_held ?_)
  show wpAny _ _ (b v >>= fun _ => bdy) _ _ _
  refine wpAny_mono h₂ (fun f s₄ h₄ => ?_) (fun e s₄ h₄ => ?_)
  · kw_lk
    refine wpAny_mono h₄ (fun _ s₅ h₅ => ?_) fun _ _ z => z
    kw_lk
    exact h₅
  · obtain ⟨a, rfl, h₄⟩ := h₄
    show wpAny _ _ (noteFrame (.ref a) env >>= _) _ _ _
    refine wpAny_bind (wpAny_mono h₄ (fun _ s₅ h₅ => ?_) fun _ _ z => z)
    refine wpAny_bind (wpAny_mono h₅ (fun _ s₆ h₆ => ?_) fun _ _ z => z)
    obtain ⟨c, tb, Lt, Lb, hc⟩ := h₆
    refine wpAny_bind (wpAny_standAt (wpAny_holding ?_))
    refine wpAny_bind (Lt.here (wpAny_bind (Lb.here ?_)))
    refine wpAny_bind ?_
    unfold withItem.marked
    refine wpAny_bind (wpAny_run (codeAny_mono hc fun r s' hr => ?_) (by intro q; exact ref_ne_byPass a (Option.some.inj q)))
    cases r with
    | error e => exact hr.elim
    | ok fl =>
      cases fl with
      | ret u =>
        obtain ⟨rfl, hr⟩ := hr
        refine wpAny_pure ?_
        first
        | exact wpAny_bind (wpAny_pure hr)
        | (refine wpAny_bind (wpAny_pure (wpAny_bind (wpAny_pure ?_))); exact hr)
        | (refine wpAny_bind (wpAny_pure ?_); simp only [Bool.false_eq_true, if_false]; exact hr)
      | next => exact hr.elim
      | brk => exact hr.elim
      | cont => exact hr.elim
end

/-- with e as name: body -/
def tWith (C : Addr) (i : Nat) (spE spX : Sp) (te : TE) (tb : WX → TS) (Wout : WX) : TS := fun D σ H =>
  te σ H fun x H1 => ∃ a dx fs, x = .ref a ∧ H1 a = some (.ins C dx fs) ∧
    spE [.ref a] H1 (fun v H2 =>
      tb (fun cls d σ' H' => ∃ k, RelV k cls ∧ k ≠ V.non ∧ ∀ e t, spX [.ref a, k, e, t] H' (fun r H4 => r = .non ∧ Wout cls d σ' H4) E0)
        { nx := fun σ3 H3 => spX [.ref a, .non, .non, .non] H3 (fun _ H4 => D.nx σ3 H4) E0, rt := fun v H3 => spX [.ref a, .non, .non, .non] H3 (fun _ H4 => D.rt v H4) E0,
          bk := fun σ3 H3 => spX [.ref a, .non, .non, .non] H3 (fun _ H4 => D.bk σ3 H4) E0, ct := fun σ3 H3 => spX [.ref a, .non, .non, .non] H3 (fun _ H4 => D.ct σ3 H4) E0 } (σ.set i (some v)) H2) E0
theorem looks_tb {M : Model} {h : Heap} {a T : Addr} {oe oT : Obj} {vs ts : Array Value} {y : Value} (he : h.get? a = some oe) (hd : oe.data = .fields vs) (h1 : vs[1]? = some (.ref T)) (hT : h.get? T = some oT) (hdT : oT.data = .fields ts) (hy : ts[1]? = some y) :
    Looks M h (tracebackOf (.ref a)) (if y == .none then .none else .ref T) := by
  intro A Q E s k q
  unfold tracebackOf
  refine wpAny_bind (wpAny_field (k _ _ he) hd h1 ?_)
  refine wpAny_bind (wpAny_field (k _ _ hT) hdT hy ?_)
  cases hb : (y == Value.none) with
  | true => rw [hb] at q; simp only [if_true] at q ⊢; exact wpAny_pure q
  | false => rw [hb] at q; simp only [Bool.false_eq_true, if_false] at q ⊢; exact wpAny_pure q
theorem ps_withX {X : Cx} {g g' : Bool} {k : Nat} {p : Addr × Obj} {C fe fx : Addr} {fde fdx : FuncData} {pse psx : List Str} {spE spX : Sp} {i : Nat} {y : Str} {py pos : Pos} {ctx : Expr} {body : List Stmt} {te : TE} {tb : WX → TS} {Wout : WX}
    (c : Cxt X g false k p) (hgl : g' = true → g = true) (hs : X.stack = X.env :: X.outer) (hf : X.env.frame = some X.env.locals) (hex : X.ex = []) (tk : L2N.Takes X Wout) (cl : Cls X.K C)
    (he : findIn X.K (.ref C) "__enter__" = some (some (.ref fe))) (hfe : isFn X.K (.ref fe) = true) (hx : findIn X.K (.ref C) "__exit__" = some (some (.ref fx))) (hfx : isFn X.K (.ref fx) = true)
    (Fe : FnX X.prog X.w X.K X.mg X.base CX0 g' false k fe fde pse spE) (be : Binds X.K fde pse [])
    (Fx : ∀ h, FnX X.prog X.w X.K X.mg X.base CX0 g' h k fx fdx psx spX) (bx : Binds X.K fdx psx [])
    (hN : X.N.Nodup) (hi : X.N[i]? = some y) (hy : Loc X.env.scope y) (hfn : X.fn y = true ∨ X.env.scope.names.lookup y = some .local)
    (hctx : PE X ctx te)
    (hb : ∀ (W : WX) (pn : List (Addr × Obj)) (xe : Value → Shared → Prop), L2N.Takes (X.tr pn xe) W → PSs (X.tr pn xe) body (tb W)) :
    PS X (.With [⟨ctx, some (.Name y py)⟩] body pos) (tWith C i spE spX te tb Wout) := by
  refine ⟨fun pins s σ H D I hw => ?_⟩
  have ok := I.ok
  have hfr : X.A.frames = some (X.env :: X.outer) := by rw [ok.frames, hs]
  refine kw_execN ?_
  refine thn (hctx.run pins s σ H _ I hw) fun u s1 ⟨xv, H1, I1, r1, a, dx, fs, ex, ea, hq⟩ => ?_
  subst ex
  obtain rfl : u = Value.ref a := r1
  obtain ⟨mA, O, _, _, _, _⟩ := ins_get I1.hok ea
  obtain ⟨od, J, _⟩ := O.look
  show wpAny _ _ (withItem false ctx.pos X.env (pure (.ref a)) (some (assign (.Name y py) X.env)) (execs body X.env)) _ _ _
  refine with_core (b := assign (.Name y py) X.env) I1.kIn J he hfe hx hfx ?_
  have P0 : L2.PassesAt CX0 X σ E0 := fun _ _ _ _ _ _ z => z.elim
  refine thn (run_fnX (E := fun _ => E0) Fe c hgl be P0 I1 (.cons (show RelV (.ref a) (.ref a) from rfl) .nil) hq) fun v s2 ⟨vv, H2, I2, r2, q2⟩ => ?_
  refine wpAny_bind (wpAny_assign_Name (store_ok I2 hN hi hy r2 (fun s3 I3 => ?_) hfn))
  -- the exit
  have out : ∀ {σ4 : St} {H4 : Hp} {s4 : Shared} {R : Hp → Prop} {Qf : Value → Shared → Prop}, Inv X pins σ4 H4 s4 → spX [.ref a, .non, .non, .non] H4 (fun _ H5 => R H5) E0 → (∀ u s5 H5, Inv X pins σ4 H5 s5 → R H5 → Qf u s5) →
      wpAny (model X.prog X.w) X.A (call (.ref fx) [.ref a, .none, .none, .none]) Qf X.xe s4 := fun {σ4 H4 s4 R Qf} I4 q4 f => by
    have P4 : L2.PassesAt CX0 X σ4 E0 := fun _ _ _ _ _ _ z => z.elim
    refine thn (run_fnX (E := fun _ => E0) (Fx false) c hgl bx P4 I4 (.cons (show RelV (.ref a) (.ref a) from rfl) (.cons (show RelV .non .none from rfl) (.cons (show RelV .non .none from rfl) (.cons (show RelV .non .none from rfl) .nil)))) q4) fun u s5 ⟨_, H5, I5, _, q5⟩ => f u s5 H5 I5 q5
  let WEx : WX := fun cls d σ' H' => ∃ k, RelV k cls ∧ k ≠ V.non ∧ ∀ e t, spX [.ref a, k, e, t] H' (fun r H4 => r = .non ∧ Wout cls d σ' H4) E0
  let D' : Ends := { nx := fun σ3 H3 => spX [.ref a, .non, .non, .non] H3 (fun _ H4 => D.nx σ3 H4) E0, rt := fun v H3 => spX [.ref a, .non, .non, .non] H3 (fun _ H4 => D.rt v H4) E0, bk := fun σ3 H3 => spX [.ref a, .non, .non, .non] H3 (fun _ H4 => D.bk σ3 H4) E0, ct := fun σ3 H3 => spX [.ref a, .non, .non, .non] H3 (fun _ H4 => D.ct σ3 H4) E0 }
  refine wpAny_mono ((hb WEx (X.pn ++ pins) (WithRaised X.prog X.w X.A X.xe X.env a fx (SP X pins D)) (fun u s' xx => ?_)).run [] s3 _ H2 D' (I3.toTry _) q2) (fun f s4 hsp => ?_) (fun e s1 he => he)
  · -- the exception
    obtain ⟨e, B, sI, pins', σ', H', cls, d, rfl, J', nb, up, sky, na, os, ag, wq⟩ := xx
    have Jx : Inv X pins σ' H' sI := J'.ofTry ok
    have sky' : Sky B (X.env :: X.outer) e (L2N.Zn cls d) X.env.locals s'.heap := by rw [← hs]; exact sky
    refine ⟨e, rfl, ?_⟩
    refine L2N.Sky.land L2N.Zn.steady hfr hf sky' fun h3 fl3 up3 => ?_
    have J3 : Inv X pins σ' H' { s' with heap := h3 } := Jx.landed nb fl3.1 (up.trans up3) os ag
    obtain ⟨k1, k2, k3, oe, vs, T, oT, ts, he3, hz, hd, hv1, hnT, hTe, hT, hdT, ht3⟩ := id fl3
    have nT : H' T = none := (Jx.inGround nb).gone hnT
    have notFr : ∀ (b : Addr) (o : Obj) (fv : Array Value), h3.get? b = some o → o.data = .fields fv → b ∉ frs (X.env :: X.outer) := fun b o fv e dd hm => by
      obtain ⟨_, o', e', hnf⟩ := k3.mem hm
      have eo : o = o' := Option.some.inj (e.symm.trans e')
      rw [← eo] at hnf
      exact hnf _ dd
    have locF : X.env.locals ∈ frs (X.env :: X.outer) := List.mem_filterMap.mpr ⟨X.env, List.mem_cons_self, hf⟩
    have fsF : ∀ b, b ∈ X.fs → b ∈ frs (X.env :: X.outer) := fun b hm => by
      obtain ⟨e, he, q⟩ := List.mem_filterMap.mp hm
      exact List.mem_filterMap.mpr ⟨e, List.mem_cons_of_mem _ he, q⟩
    have fa := notFr e oe vs he3 hd
    have fT := notFr T oT ts hT hdT
    have S3 : Inv (X.suite e ((e, oe) :: (T, oT) :: (X.pn ++ pins))) [] σ' H' { s' with heap := h3 } :=
      ⟨J3.ok.suite _ _, J3.os, J3.bare, J3.base, J3.loc, J3.cell, J3.free, J3.freeC, fun p hp => by
        rw [List.append_nil] at hp
        rcases List.mem_cons.mp hp with z | hp
        · rw [z]
          exact ⟨he3, na, fun z2 => fa (by rw [show e = X.env.locals from z2]; exact locF), fun z2 => fa (fsF _ z2), fun v z2 => by
            have z3 : oe.data = .cell v := z2
            rw [hd] at z3
            cases z3⟩
        · rcases List.mem_cons.mp hp with z | hp
          · rw [z]
            exact ⟨hT, nT, fun z2 => fT (by rw [show T = X.env.locals from z2]; exact locF), fun z2 => fT (fsF _ z2), fun v z2 => by
              have z3 : oT.data = .cell v := z2
              rw [hdT] at z3
              cases z3⟩
          · exact J3.pin p hp, J3.hok, J3.len⟩
    obtain ⟨cv, rcv, ncv, wq⟩ := wq
    have hy1 : ∃ y, ts[1]? = some y := by
      have hlt : 3 < ts.size := by
        rcases Nat.lt_or_ge 3 ts.size with q | q
        · exact q
        · rw [Array.getElem?_eq_none q] at ht3; cases ht3
      exact ⟨ts[1], Array.getElem?_eq_getElem (by omega)⟩
    obtain ⟨y1, hy1⟩ := hy1
    refine ⟨cls, _, fun A Q E s k q => wpAny_typeOf_ref (k _ _ he3) (by rw [hz.1]; exact q), looks_tb he3 hd hv1 hT hdT hy1, ?_⟩
    obtain ⟨tv, rtv⟩ : ∃ tv, RelV tv (if y1 == Value.none then Value.none else Value.ref T) := by
      cases (y1 == Value.none) with
      | true => exact ⟨.non, rfl⟩
      | false => exact ⟨.ref T, rfl⟩
    have hsx := wq (.ref e) tv
    have hl : ([Value.ref a, cls, .ref e, (if y1 == Value.none then Value.none else Value.ref T)] ++ []).length = psx.length := by
      rw [← (Fx true).len _ _ _ _ hsx]
      rfl
    have bnd := bx { s' with heap := h3 } [Value.ref a, cls, .ref e, (if y1 == Value.none then Value.none else Value.ref T)] J3.kIn hl
    have rm : RmX g' true k (X.suite e ((e, oe) :: (T, oT) :: (X.pn ++ pins))).A (e, oe) :=
      ⟨⟨c.rm.room.dp, c.rm.room.un⟩, fun z => c.rm.gd (hgl z), fun z => Bool.noConfusion z, fun _ => ⟨rfl, vs, hd, hz.2.2 vs hd⟩⟩
    refine codeAny_mono ((Fx true).run _ X.stack { s' with heap := h3 } H' ⟨[.ref a, cls, .ref e, _], []⟩ _ _ _ E0 (e, oe) rm (fun _ => pinok (X := X.suite e ((e, oe) :: (T, oT) :: (X.pn ++ pins))) S3 List.mem_cons_self) S3.env0 bnd (.cons (show RelV (.ref a) (.ref a) from rfl) (.cons rcv (.cons (show RelV (.ref e) (.ref e) from rfl) (.cons rtv .nil)))) hsx) fun r s6 hr => ?_
    cases r with
    | error er => exact False.elim hr
    | ok fl =>
      cases fl with
      | next => exact False.elim hr
      | brk => exact False.elim hr
      | cont => exact False.elim hr
      | ret u =>
        obtain ⟨vr, H6, S6, rvr, rfl, q6⟩ := S3.after hr
        refine ⟨rvr, ?_⟩
        have J6 : Inv X pins σ' H6 s6 := ⟨ok, S6.os, S6.bare, S6.base, S6.loc, S6.cell, S6.free, S6.freeC, fun p hp => S6.pin p (List.mem_append_left _ (List.mem_cons_of_mem _ (List.mem_cons_of_mem _ hp))), S6.hok, S6.len⟩
        have pa := S6.pin (e, oe) (List.mem_append_left _ List.mem_cons_self)
        have pT := S6.pin (T, oT) (List.mem_append_left _ (List.mem_cons_of_mem _ List.mem_cons_self))
        have ga : s6.heap.get? e = some oe := pa.1
        have gT : s6.heap.get? T = some oT := pT.1
        have na6 : H6 e = none := pa.2.1
        have nT6 : H6 T = none := pT.2.1
        have far : ∀ b o, sI.heap.get? b = some o → b ≠ e ∧ b ≠ T := fun b o e1 => by
          by_cases hb : b ∈ frs X.stack
          · rw [hs] at hb
            exact ⟨fun z => fa (by rw [← z]; exact hb), fun z => fT (by rw [← z]; exact hb)⟩
          · have q := nb b o e1 hb
            exact ⟨fun z => by
              rw [z, k2] at q
              exact (nomatch q), fun z => by
              rw [z, hnT] at q
              cases q⟩
        have far0 : ∀ b o, X.s_0.heap.get? b = some o → b ≠ e ∧ b ≠ T := fun b o e1 => by
          obtain ⟨o', q⟩ := Jx.base.there b o e1 (by rw [hex]; simp)
          exact far b o' q
        have farP : ∀ p ∈ X.pn ++ pins, p.1 ≠ e ∧ p.1 ≠ T := fun p hp => far p.1 p.2 (Jx.pin p hp).1
        obtain ⟨G, g1, g2⟩ := restrict s6.heap fun b => !(decide (b = e) || decide (b = T))
        have gIn : ∀ b o, G.get? b = some o → s6.heap.get? b = some o ∧ b ≠ e ∧ b ≠ T := fun b o e1 => by
          cases q : (!(decide (b = e) || decide (b = T))) with
          | false =>
            rw [g2 b q] at e1
            cases e1
          | true =>
            rw [g1 b q] at e1
            simp only [Bool.not_eq_true', Bool.or_eq_false_iff, decide_eq_false_iff_not] at q
            exact ⟨e1, q.1, q.2⟩
        have gOf : ∀ b o, b ≠ e → b ≠ T → s6.heap.get? b = some o → G.get? b = some o := fun b o h1 h2 e1 => by
          rw [g1 b (by simp [h1, h2])]
          exact e1
        have I6 : Inv X pins σ' H6 { s6 with heap := G } := J6.less (fun b o e1 => (gIn b o e1).1) gOf ⟨oe, vs, ga, hd⟩ ⟨oT, ts, gT, hdT⟩ na6 nT6 far0 farP
        have B6in : ∀ b o, (PySem.W.hideAll G (frs X.stack)).get? b = some o → s6.heap.get? b = some o := fun b o e1 => (gIn b o (PySem.W.of_hideAll _ e1)).1
        have Bno : ∀ b, (b = e ∨ b = T) → (PySem.W.hideAll G (frs X.stack)).get? b = none := fun b hb => by
          cases q : (PySem.W.hideAll G (frs X.stack)).get? b with
          | none => rfl
          | some o =>
            obtain ⟨_, n1, n2⟩ := gIn b o (PySem.W.of_hideAll _ q)
            rcases hb with z | z
            · exact absurd z n1
            · exact absurd z n2
        have fl6 : HandSPX.FlyingZ (PySem.W.hideAll G (frs X.stack)) (X.env :: X.outer) e (L2N.Zn cls d) s6.heap := by
          refine ⟨B6in, Bno e (.inl rfl), ?_, oe, vs, T, oT, ts, ga, hz, hd, hv1, Bno T (.inr rfl), hTe, gT, hdT, ht3⟩
          have ff := funFrames_none (B := PySem.W.hideAll G (frs X.stack)) J6.stack fun b hb => PySem.W.hideAll_none _ hb
          rw [← hs]
          exact ff
        show wpAny (model X.prog X.w) X.A (PySem.passOn "with" (.ref e) X.env) (SP X pins D) X.xe s6
        unfold PySem.passOn
        refine wpAny_bind (wpAny_field ga hd hv1 ?_)
        rw [if_neg (show ¬ ((Value.ref T == Value.none) = true) from by simp)]
        have goOn : wpAny (model X.prog X.w) X.A (setFlight (.ref e) X.env.frame) (fun _ s7 => wpAny (model X.prog X.w) X.A (throw (.ref e) : Sem Flow) (SP X pins D) X.xe s7) X.xe s6 := by
          rw [hf]
          refine HandSPX.setFlight_upZ fl6 fun h7 hh7 up7 => wpAny_throw (tk _ _ ?_)
          refine ⟨e, PySem.W.hideAll G (frs X.stack), { s6 with heap := G }, pins, σ', H6, cls, d, rfl, I6, fun b o e1 hb => PySem.W.hideAll_get _ e1 hb, ?_, .inr (.inr (by rw [← hs] at hh7; exact hh7)), na6, rfl, J6.bare, q6⟩
          exact Heap.UpToSlots.trans (Heap.UpToSlots.of_keeps fun b o e1 => (gIn b o e1).1) up7
        first
          | exact wpAny_bind (wpAny_pure (wpAny_bind goOn))
          | exact wpAny_bind goOn
  · cases f with
    | next =>
      obtain ⟨σ4, H4, J4, q4⟩ := hsp
      exact out (J4.ofTry ok) q4 fun u s5 H5 I5 q5 => ⟨σ4, H5, I5, q5⟩
    | brk =>
      obtain ⟨σ4, H4, J4, q4⟩ := hsp
      exact out (J4.ofTry ok) q4 fun u s5 H5 I5 q5 => ⟨σ4, H5, I5, q5⟩
    | cont =>
      obtain ⟨σ4, H4, J4, q4⟩ := hsp
      exact out (J4.ofTry ok) q4 fun u s5 H5 I5 q5 => ⟨σ4, H5, I5, q5⟩
    | ret u =>
      obtain ⟨v4, σ4, H4, J4, r4, q4⟩ := hsp
      exact out (J4.ofTry ok) q4 fun u s5 H5 I5 q5 => ⟨v4, σ4, H5, I5, r4, q5⟩
end Spf
end
section
set_option maxHeartbeats 4000000
/-! Own layer 4: try with a tuple of classes; own exceptions with one field over ValueError, LookupError, ArithmeticError. -/
namespace Spf
open PySem PySem.Spec PyProof.Rows L2 L2H HotX
section
theorem fly_push {B h : Heap} {l : List Env} {a : Addr} {Z : Obj → Prop} (o : Obj) (x : HandSPX.FlyingZ B l a Z h) : HandSPX.FlyingZ B l a Z (h.push o) := by
  obtain ⟨k1, k2, k3, oe, vs, T, oT, ts, he, hz, hd, h1, hn, ht, hT, hdT, h3⟩ := x
  exact ⟨fun b u e => Heap.get?_push_of_some _ (k1 b u e), k2, Heap.FunFrames.of_keeps (fun b u e _ => ⟨u, Heap.get?_push_of_some _ e, rfl⟩) k3, oe, vs, T, oT, ts, Heap.get?_push_of_some _ he, hz, hd, h1, hn, ht, Heap.get?_push_of_some _ hT, hdT, h3⟩
variable {X : Cx} {x1 x2 x3 n : Str} {c1 c2 c3 : Value} {i kk : Nat} {body suite : List Stmt} {b₀ : Stmt} {q1 q2 q3 tp pos pos' : Pos} {tb : WX → TS} {ts : Addr → Value → Option Addr → TS} {Wout : WX}
/-- what the clause 'except (x1, x2, x3) as n' wishes of an exception of the body -/
def wAs3 (K : PySem.W.Frag) (cs : List Value) (i : Nat) (ts : Addr → Value → Option Addr → TS) (Wout : WX) (D : Ends) : WX := fun cls d σ H =>
  ∃ b, PySem.W.exmAny K cls cs = some b ∧ (b = true → ∀ a, H a = none → ts a cls d { nx := fun σ' H' => D.nx (σ'.set i none) H', rt := D.rt, bk := fun σ' H' => D.bk (σ'.set i none) H', ct := fun σ' H' => D.ct (σ'.set i none) H' } (σ.set i (some (.ref a))) H) ∧
    (b = false → Wout cls d σ H)
theorem ps_try_as3 (hs : X.stack = X.env :: X.outer) (hf : X.env.frame = some X.env.locals) (hN : X.N.Nodup) (hi : X.N[i]? = some n) (hln : X.env.kindOf n = some .local) (hg1 : Gl X x1) (hg2 : Gl X x2) (hg3 : Gl X x3) (hm1 : X.mg x1 = some c1) (hm2 : X.mg x2 = some c2) (hm3 : X.mg x3 = some c3)
    (hb1 : (x1 == ("__debug__" : Str)) = false) (hb2 : (x2 == ("__debug__" : Str)) = false) (hb3 : (x3 == ("__debug__" : Str)) = false) (tk : L2N.Takes X Wout)
    (hb : ∀ (W : WX) (pn : List (Addr × Obj)) (xe : Value → Shared → Prop), L2N.Takes (X.tr pn xe) W → PSs (X.tr pn xe) body (tb W))
    (hsu : ∀ (a : Addr) (oe : Obj) (cls : Value) (d : Option Addr) (pn : List (Addr × Obj)), L2N.Zn cls d oe → (∃ vs, oe.data = .fields vs) → PSs (X.suite a ((a, oe) :: pn)) (b₀ :: suite) (ts a cls d)) :
    PS X (.Try body [.ExceptHandler (some (.Tuple [.Name x1 q1, .Name x2 q2, .Name x3 q3] kk tp)) (some n) (b₀ :: suite) pos'] [] [] pos) (fun D σ H => tb (wAs3 X.K [c1, c2, c3] i ts Wout D) D σ H) := by
  refine ⟨fun pins s σ H D I h => ?_⟩
  have ok := I.ok
  have hfr : X.A.frames = some (X.env :: X.outer) := by rw [ok.frames, hs]
  have hloc : Loc X.env.scope n := .inl hln
  refine wpAny_Try_except ?_
  refine wpAny_mono ((hb (wAs3 X.K [c1, c2, c3] i ts Wout D) (X.pn ++ pins) (fun e s₁ => wpAny (model X.prog X.w) X.A (noteFrame e X.env) (fun _ s₂ => wpAny (model X.prog X.w) X.A (setFlight e none) (fun _ s₃ =>
    wpAny (model X.prog X.w) X.A (handleBy e X.env [.ExceptHandler (some (.Tuple [.Name x1 q1, .Name x2 q2, .Name x3 q3] kk tp)) (some n) (b₀ :: suite) pos']) (SP X pins D) X.xe s₃) X.xe s₂) X.xe s₁) (fun u s' xx => ?_)).run [] s σ H D (I.toTry _) h) (fun f s1 hsp => ?_) (fun e s1 he => he)
  · obtain ⟨a, B, sI, pins', σ', H', cls, d, rfl, J', nb, up, sky, na, os, ag, b, hbx, hyes, hno⟩ := xx
    have J : Inv X pins σ' H' sI := J'.ofTry ok
    have sky' : Sky B (X.env :: X.outer) a (L2N.Zn cls d) X.env.locals s'.heap := by rw [← hs]; exact sky
    show wpAny (model X.prog X.w) X.A (noteFrame (.ref a) X.env) _ _ _
    refine L2N.Sky.land L2N.Zn.steady hfr hf sky' fun h3 fl3 up3 => ?_
    have J3 : Inv X pins σ' H' { s' with heap := h3 } := J.landed nb fl3.1 (up.trans up3) os ag
    obtain ⟨oe3, vs3, he3, hz3, hd3⟩ := fl3.there
    have notFr : ∀ {h : Heap} {o : Obj} {vs : Array Value}, h.FunFrames B (X.env :: X.outer) → h.get? a = some o → o.data = .fields vs → a ∉ frs (X.env :: X.outer) := fun {h o vs} ff e dd hm => by
      obtain ⟨_, o', e', hnf⟩ := ff.mem hm
      rw [e] at e'; cases e'
      exact hnf _ dd
    have nfr := notFr fl3.2.2.1 he3 hd3
    have nL : a ≠ X.env.locals := fun z => nfr (List.mem_filterMap.mpr ⟨X.env, List.mem_cons_self, by rw [hf, z]⟩)
    have nF : a ∉ X.fs := fun hm => by
      obtain ⟨e, he, q⟩ := List.mem_filterMap.mp hm
      exact nfr (List.mem_filterMap.mpr ⟨e, List.mem_cons_of_mem _ he, q⟩)
    have S3 := J3.suite he3 hd3 na nL nF
    refine wpAny_handleBy_cons (codeAny_handlers_test ?_) (by intro q; cases q)
    have test : ∀ {x : Str} {c : Value} {q0 : Pos} {Q : Value → Shared → Prop} {E : Value → Shared → Prop}, Gl X x → X.mg x = some c → (x == ("__debug__" : Str)) = false → Q c { s' with heap := h3 } → wpAny (model X.prog X.w) (X.A.mark (some (.ref a))) (eval (.Name x q0) X.env) Q E { s' with heap := h3 } := fun {x c q0 Q E} hg hm hdbg q =>
      ld_glob (X := X.suite a ((a, oe3) :: (X.pn ++ pins))) S3 hg hm q hdbg
    refine wpAny_Tuple_spliced ?_
    refine spliced_more (test hg1 hm1 hb1 (spliced_more (test hg2 hm2 hb2 (spliced_more (test hg3 hm3 hb3 (Calls.spliced_nil ?_))))))
    refine ⟨by show 3 ≤ sizeLine; rw [sizeLine_eq]; omega, ?_⟩
    have LT : PySem.W.Looks (model X.prog X.w) (h3.push { cls := .type "tuple", data := .seq [c1, c2, c3].toArray }) (typeOf (.ref a)) cls := fun A Q E s k q => wpAny_typeOf_ref (k _ _ (Heap.get?_push_of_some _ he3)) (by rw [hz3.1]; exact q)
    have LM := PySem.W.exm_tup3 (M := model X.prog X.w) (J3.kIn.keeps fun b o e => Heap.get?_push_of_some _ e) LT (Heap.get?_push_size _ rfl) hbx
    have flp := fly_push { cls := .type "tuple", data := .seq [c1, c2, c3].toArray } fl3
    have upp : s'.heap.UpToSlots (h3.push { cls := .type "tuple", data := .seq [c1, c2, c3].toArray }) := up3.trans (Heap.UpToSlots.of_keeps fun b o e => Heap.get?_push_of_some _ e)
    refine LM.here ?_
    cases b with
    | true =>
      refine codeAny_handlers_suite_as ?_
      refine HandSPX.lands_againZ flp fun h4 fl4 up4 => ?_
      have J4 : Inv X pins σ' H' { s' with heap := h4 } := J.landed nb fl4.1 ((up.trans upp).trans up4) os ag
      obtain ⟨oe4, vs4, he4, hz4, hd4⟩ := fl4.there
      have S4 := J4.suite he4 hd4 na nL nF
      refine store_ok (X := X.suite a ((a, oe4) :: (X.pn ++ pins))) (v := .ref a) S4 hN hi hloc rfl (fun s5 S5 => ?_) (.inr hln)
      refine wpAny_mono ((hsu a oe4 cls d (X.pn ++ pins) hz4 ⟨_, hd4⟩).run [] s5 _ H' _ S5 (hyes rfl a na)) (fun f s6 hsp => ?_) (fun _ _ z => False.elim z)
      have end_ : ∀ {σ6 : St} {H6 : Hp} {Q : Shared → Prop}, Inv (X.suite a ((a, oe4) :: (X.pn ++ pins))) [] σ6 H6 s6 → (∀ s7, Inv X pins (σ6.set i none) H6 s7 → Q s7) →
          wpAny (model X.prog X.w) X.A (do bindName X.env n .none; unbindBehindTheSuite X.env n pos') (fun _ s7 => Q s7) X.xe s6 := fun {σ6 H6 Q} S6 hq => gone_ok (S6.unsuite ok) hN hi hln hq
      cases f with
      | next =>
        obtain ⟨σ6, H6, S6, q6⟩ := hsp
        exact end_ S6 fun s7 J7 => ⟨_, _, J7, q6⟩
      | brk =>
        obtain ⟨σ6, H6, S6, q6⟩ := hsp
        exact end_ S6 fun s7 J7 => ⟨_, _, J7, q6⟩
      | cont =>
        obtain ⟨σ6, H6, S6, q6⟩ := hsp
        exact end_ S6 fun s7 J7 => ⟨_, _, J7, q6⟩
      | ret u =>
        obtain ⟨v6, σ6, H6, S6, r6, q6⟩ := hsp
        exact end_ S6 fun s7 J7 => ⟨_, _, _, J7, r6, q6⟩
    | false =>
      show wpAny _ X.A (handleBy (.ref a) X.env []) _ _ _
      refine wpAny_handleBy_nil ?_
      obtain ⟨k1, k2, k3, oe, vs, T, oT, ts', he, hz, hd, h1, hr⟩ := id flp
      unfold PySem.passOn
      refine wpAny_bind (wpAny_field he hd h1 ?_)
      rw [if_neg (show ¬ ((Value.ref T == Value.none) = true) from by simp)]
      have fin : wpAny (model X.prog X.w) X.A (setFlight (.ref a) X.env.frame) (fun _ s4 => wpAny (model X.prog X.w) X.A (throw (.ref a) : Sem Flow) (SP X pins D) X.xe s4) X.xe { s' with heap := h3.push { cls := .type "tuple", data := .seq [c1, c2, c3].toArray } } := by
        rw [hf]
        refine HandSPX.setFlight_upZ flp fun h4 hh4 up4 => wpAny_throw (tk _ _ ?_)
        exact ⟨a, B, sI, pins, σ', H', cls, d, rfl, J, nb, (up.trans upp).trans up4, .inr (.inr (by rw [hs]; exact hh4)), na, os, ag, hno rfl⟩
      first
        | exact wpAny_bind (wpAny_pure (wpAny_bind fin))
        | exact wpAny_bind fin
  · cases f with
    | next =>
      obtain ⟨σ', H', J', q⟩ := hsp
      exact wpAny_execs_nil ⟨σ', H', J'.ofTry ok, q⟩
    | brk =>
      obtain ⟨σ', H', J', q⟩ := hsp
      exact ⟨σ', H', J'.ofTry ok, q⟩
    | cont =>
      obtain ⟨σ', H', J', q⟩ := hsp
      exact ⟨σ', H', J'.ofTry ok, q⟩
    | ret u =>
      obtain ⟨v, σ', H', J', r, q⟩ := hsp
      exact ⟨v, σ', H', J'.ofTry ok, r, q⟩
end
end Spf
end
section
set_option maxHeartbeats 4000000
/-! Own layer 5: own exceptions with one field, over ValueError, LookupError, ArithmeticError. -/
namespace Spf
open PySem PySem.Spec PyProof.Rows L2 L2H HotX
/-- a def of the text (HandS.Words' Fun), its promise in one mode -/
theorem funX {P : Program} {w : World} {K : PySem.W.Frag} {mg : Str → Option Value} {base : Heap} {CX : CXT} {g h : Bool} {k : Nat} {x qual : Str} {st : Stmt} {f : Addr} {fd : FuncData} {N ps : List Str} {sp : Sp} (F : Fun K x qual st f fd) (S : FnScope N ps (defScope st))
    (len : ∀ vs H Q E, sp vs H Q E → vs.length = ps.length)
    (hbody : ∀ (cdv : Value) (A : Around) (outer : List Env) (s : Shared) (H : Hp) (vs : List V) (Q : VK) (E : XK) (p : Addr × Obj), Cxt (cxX CX P w K mg base N qual (defScope st) f cdv A outer s H E h p) g h k p → sp vs H Q E →
      ∃ t, PSs (cxX CX P w K mg base N qual (defScope st) f cdv A outer s H E h p) (defBody st) t ∧ t { nx := fun _ H' => Q .non H', rt := Q } (L2.start N vs) H) : FnX P w K mg base CX g h (k + 1) f fd ps sp := by
  obtain ⟨oc, od, kV, doc, pm, an, cdv, ct, osl, rfl, lk, hcd⟩ := F.ex
  exact fn_ofX lk hcd S len fun A outer s H vs Q E p c hsp => hbody cdv A outer s H vs Q E p c hsp
end Spf
namespace PySem
namespace SpfX
open PySem.W PySem.Calls PyProof.Rows PySem.HandSPX Builtin Builtin.ObjectAttr
theorem refsT_cases {tl : List Value} : ∀ l : List Value, refsT tl l = true → (∃ c r, l = .ref c :: r ∧ refsT tl r = true) ∨ l = tl
  | [], e => .inr (beq_iff_eq.mp e)
  | .ref c :: r, e => .inl ⟨c, r, rfl, e⟩
  | .none :: _, e => .inr (beq_iff_eq.mp e)
  | .ellipsis :: _, e => .inr (beq_iff_eq.mp e)
  | .notImplemented :: _, e => .inr (beq_iff_eq.mp e)
  | .bool _ :: _, e => .inr (beq_iff_eq.mp e)
  | .int _ _ :: _, e => .inr (beq_iff_eq.mp e)
  | .float _ _ :: _, e => .inr (beq_iff_eq.mp e)
  | .str _ _ :: _, e => .inr (beq_iff_eq.mp e)
  | .bytes _ _ :: _, e => .inr (beq_iff_eq.mp e)
  | .type _ :: _, e => .inr (beq_iff_eq.mp e)
  | .builtin _ :: _, e => .inr (beq_iff_eq.mp e)
/-- what a base's tail must have -/
structure TailF (tl : List Value) : Prop where
  ne : tl.isEmpty = false
  pass : ∀ self, refuseLoop self "__setattr__" tl = pure ()
  obj : tl.contains (.type "object") = true
theorem tail_VE : TailF [.type "ValueError", .type "Exception", .type "BaseException", .type "object"] := ⟨rfl, fun self => F.store_ValueError.passes self, by decide +kernel⟩
theorem tail_LE : TailF [.type "LookupError", .type "Exception", .type "BaseException", .type "object"] := ⟨rfl, fun self => F.store_LookupError.passes self, by decide +kernel⟩
theorem tail_AE : TailF [.type "ArithmeticError", .type "Exception", .type "BaseException", .type "object"] := ⟨rfl, fun self => F.store_ArithmeticError.passes self, by decide +kernel⟩
section
variable {tl : List Value} (T : TailF tl)
include T
theorem refsT_pass (self : Value) : ∀ l : List Value, refsT tl l = true → refuseLoop self "__setattr__" l = pure () := by
  intro l
  induction l with
  | nil =>
    intro e
    rcases refsT_cases [] e with ⟨c, r', q, h⟩ | q
    · cases q
    · have := T.ne; rw [← q] at this; cases this
  | cons a r ih =>
    intro e
    rcases refsT_cases (a :: r) e with ⟨c, r', q, h⟩ | q
    · obtain ⟨rfl, rfl⟩ := List.cons.inj q
      rw [refuseLoop_ref]; exact ih h
    · rw [q]; exact T.pass self
theorem refsT_contains (X : String) : ∀ l : List Value, refsT tl l = true → l.contains (.type X) = tl.contains (.type X) := by
  intro l
  induction l with
  | nil =>
    intro e
    rcases refsT_cases [] e with ⟨c, r', q, h⟩ | q
    · cases q
    · rw [q]
  | cons a r ih =>
    intro e
    rcases refsT_cases (a :: r) e with ⟨c, r', q, h⟩ | q
    · obtain ⟨rfl, rfl⟩ := List.cons.inj q
      rw [List.contains_cons, ih h]; rfl
    · rw [q]
theorem refsT_ne : ∀ {l : List Value}, refsT tl l = true → l.isEmpty = false
  | [], e => by
    rcases refsT_cases [] e with ⟨c, r', q, h⟩ | q
    · cases q
    · have := T.ne; rw [← q] at this; cases this
  | _ :: _, _ => rfl
end
variable {prog : Program} {w : World} {A : Around} {E : Value → Shared → Prop} {R : Result → Shared → Prop} {hp : Heap} {g : Array GenState} {d : Drawn} {t : Nat} {os : OsState}
theorem osaT {tl : List Value} (TF : TailF tl) {K : W.Frag} {name : Str} {tk : Tok} {v : Value} {x C : Addr} {fv : Array Value} {cd : ClassData}
    (X : K.In hp) (hx : hp.get? x = some { cls := .ref C, data := .fields fv }) (hcd : W.clsIn K C = some cd) (hm : refsT tl cd.mro = true) (hh : cd.hasDict = true) (ha : W.findIn K (.ref C) name = some none)
    (hq : ∀ h' tk' dx, (∀ b o, b ≠ x → hp.get? b = some o → h'.get? b = some o) → hp.objs.size ≤ dx → dx ≠ x → h'.get? x = some { cls := .ref C, dict := some dx, data := .fields fv } →
      h'.Ns1 dx (fun y => if y = name then some v else none) → R (.ok (.ret .none)) ⟨h', g, d, tk', os⟩) :
    codeAny (model prog w) A (.call (.builtin "object.__setattr__") ⟨[.ref x, .str name tk, v], []⟩) R ⟨hp, g, d, t, os⟩ := by
  have I : W.InstAt hp x { cls := .ref C, data := .fields fv } C none := ⟨hx, rfl, rfl, trivial⟩
  have SF := F.store_object
  have ne := refsT_ne TF hm
  have hob : cd.mro.contains (.type "object") = true := (refsT_contains TF "object" _ hm).trans TF.obj
  have hxs : x ≠ hp.objs.size := Nat.ne_of_lt (Heap.lt_size hx)
  have sub : W.Looks (model prog w) hp (isInstance (.ref x) (.type "object")) true := I.type.andThen (W.looks_mroIn X (by unfold W.mroIn; rw [hcd, Option.bind_some, if_neg (by rw [ne]; decide), hob]))
  refine codeAny_call_builtin SF.slot.plain SF.entry (@W.check_slot (model prog w) _ _ ⟨hp, g, d, t, os⟩ "object.__setattr__" "object" "__setattr__" (.ref x) [.str name tk, v] [] _ SF.kind SF.split sub (SF.args (.ref x) (.str name tk) v) ?_)
  have hmr : W.Looks (model prog w) hp (mroOf (.ref C)) cd.mro := (W.looks_clsIn X hcd).andThen .now
  have L3 : W.Looks (model prog w) hp (storeTaker? none) none := .now
  have hcls : W.Looks (model prog w) hp (classData C) cd := W.looks_clsIn X hcd
  rw [W.osa_eq, refuse_eq]
  refine wpAny_bind (wpAny_bind (I.type.at (wpAny_bind (hmr.at ?_))))
  rw [refsT_pass TF _ _ hm]
  refine wpAny_pure (wpAny_bind (I.type.at (wpAny_bind ((W.looks_findIn X ha).at (wpAny_bind (L3.at ?_))))))
  show wpAny _ _ (storeInOwnDict (.ref x) (.ref C) (.str name tk) name v false) _ _ _
  obtain ⟨nm, bs, mro, ns, qn, hd, sn, sb, ab, col, del⟩ := cd
  dsimp only at hh
  subst hh
  unfold storeInOwnDict ownDictForStores
  repeat (first | with_reducible refine store_in_new ?_ ?_ | with_reducible refine wpAny_loadPart_at hx ?_ | with_reducible refine hcls.at ?_ | wp_step)
  · exact ⟨_, #[], _, (Heap.get?_update_ne _ _ _ _ hxs.symm).trans (Heap.get?_push_at rfl rfl), rfl, fun e he => absurd he (by simp), fun _ => rfl⟩
  · intro h' tk' hn' hs
    have hx₁ : (hp.push { cls := .type "dict", data := .dict #[] }).get? x = some { cls := .ref C, data := .fields fv } := Heap.get?_push_of_some _ hx
    refine hq h' tk' hp.objs.size (fun b o hb ho => ?_) (Nat.le_refl _) hxs.symm ?_ hn'
    · exact (hs.2 b (Nat.ne_of_lt (Heap.lt_size ho))).trans ((Heap.get?_update_ne _ _ _ _ hb).trans (Heap.get?_push_of_some _ ho))
    · exact (hs.2 x hxs).trans (Heap.get?_update_self _ hx₁ rfl)
/-- the body self.f = f -/
def iB (f : Str) (q1 q2 q3 q4 : Pos) : List Stmt := [.Assign [.Attribute (.Name "self" q1) f q2] (.Name f q3) q4]
def iS (f : Str) : Scope := { kind := .function, names := [(PySem.Str.ofString "self", .local), (f, .local)], isGenerator := false, isCoroutine := false, more := [] }
/-- what the written part says of an own exception x at C with the field f, and of its __init__ at fI -/
structure EX1 (K : Frag) (mg : Str → Option Value) (x f : Str) (C fI : Addr) : Prop where
  gC : mg x = some (.ref C)
  cls : ∃ B newId initId tl, ExcBaseFacts B newId initId tl ∧ TailF tl ∧ ∃ nm q N bs bm sn sub ab col dd k0 k1 k2 k3 k5, K.lookup C = some (excClassObj nm q C N bs bm true sn sub ab col dd k0 k1 k2 k3 k5 newId) ∧ refsT tl bm = true
  sa : findIn K (.ref C) "__setattr__" = some (some (.builtin "object.__setattr__"))
  noN : findIn K (.ref C) f = some none
  iC : findIn K (.ref C) "__init__" = some (some (.ref fI))
  tC : typeIn K (.ref fI) = some (.type "function")
  kC : keepIn K (.ref C) = true
  exC : subIn K (.ref C) (.type "BaseException") = some true
  tyC : typeIn K (.ref C) = some (.type "type")
  nself : (f == PySem.Str.ofString "self") = false
  ndbg : (f == ("__debug__" : Str)) = false
  fn : ∃ (qual : Str) (oc : Value) (od : Option Addr) (fd : FuncData) (params : Arguments) (dV kV doc pm : Value) (an : Option Addr) (cdv ct : Value) (osl : Array (Option Value)) (q1 q2 q3 q4 : Pos),
    fd = fnOf "__init__" qual params (iB f q1 q2 q3 q4) (iS f) dV kV doc pm an cdv ct ∧ K.lookup fI = some ⟨oc, od, .func fd, osl⟩ ∧ codeIn K cdv qual = true ∧ L2.Binds K fd ["self", f] []
theorem one_size (v : Value) : [v].length ≤ sizeLine := by
  rw [sizeLine_eq]
  exact (by decide : 1 ≤ 16777216)
theorem ldC {M : Model} {s : Shared} {name : Str} {scope : Scope} {L a : Addr} {cd : Value} {m : Str → Option Value} {x : Str} {pos : Pos} {v : Value} {Q : Value → Shared → Prop} {A : Around} {E : Value → Shared → Prop} (hn : s.heap.Ns L m) (hv : m x = some v) (h : Q v s)
    (hk : scope.kind = .function) (hl : (envOfC name scope L a cd).kindOf x = some .local) (hd : (x == ("__debug__" : Str)) = false) :
    wpAny M A (eval (.Name x pos) (envOfC name scope L a cd)) Q E s := wpAny_Name (wpAny_loadName_local hk hl hn hv h) hd
/-- what __init__ leaves of a fresh exception at x -/
structure InitEnd (h h' : Heap) (x C dx t1 : Addr) (f : Str) (v : Value) : Prop where
  keep : ∀ b o, b ≠ x → h.get? b = some o → h'.get? b = some o
  obj : h'.get? x = some { cls := .ref C, dict := some dx, data := .fields #[.ref t1, .none, .none, .none, .bool false, .none] }
  dbig : h.objs.size ≤ dx
  dne : dx ≠ x
  ns : h'.Ns1 dx (fun y => if y = f then some v else none)
structure OwnMade (h h' : Heap) (e C d : Addr) (f : Str) (v : Value) : Prop where
  keep : ∀ b o, h.get? b = some o → h'.get? b = some o
  new : h.objs.size ≤ e
  obj : ∃ oe t, h'.get? e = some oe ∧ oe.cls = .ref C ∧ oe.dict = some d ∧ oe.data = .fields #[.ref t, .none, .none, .none, .bool false, .none]
  dbig : h.objs.size ≤ d
  dne : d ≠ e
  ns : h'.Ns1 d (fun y => if y = f then some v else none)
section
variable {s : Shared} {K : Frag} {mg : Str → Option Value} {x f : Str} {C fI : Addr}
theorem ex_init (T : EX1 K mg x f C fI) {e t0 : Addr} {v : Value} (X : K.In s.heap) (hlim : s.heap.NoLimit) (hx : s.heap.get? e = some (excO C t0)) (hroom : A.depth < recursionLimit)
    (hq : ∀ h' tk dx, InitEnd s.heap h' e C dx t0 f v → R (.ok (.ret .none)) { s with heap := h', toks := tk }) :
    codeAny (model prog w) A (.call (.ref fI) ⟨[.ref e, v], []⟩) R s := by
  obtain ⟨qual, oc, od, fd, params, dV, kV, doc, pm, an, cdv, ct, osl, q1, q2, q3, q4, rfl, ho, hcd, hb⟩ := T.fn
  obtain ⟨B, newId, initId, tl, FB, TF, nm, q, N, bs, bm, sn, sub, ab, col, dd, k0, k1, k2, k3, k5, hC, hbm⟩ := T.cls
  have hcl : clsIn K C = some { name := nm, bases := bs, mro := .ref C :: bm, ns := N, qualname := q, hasDict := true, slotNames := sn, subclasses := sub, abstract := ab, collection := col, hasDel := false } := by unfold clsIn; rw [hC] <;> rfl
  have hself : (PySem.Str.ofString "self" == f) = false := by
    rw [beq_eq_false_iff_ne]
    intro z
    have := T.nself
    rw [← z, beq_self_eq_true] at this
    cases this
  have kf : (iS f).names.lookup f = some .local := by
    show List.lookup f [(PySem.Str.ofString "self", NameKind.local), (f, NameKind.local)] = _
    rw [List.lookup_cons, T.nself]
    simp [List.lookup]
  have ks : (iS f).names.lookup (PySem.Str.ofString "self") = some .local := by
    show List.lookup (PySem.Str.ofString "self") [(PySem.Str.ofString "self", NameKind.local), (f, NameKind.local)] = _
    simp [List.lookup]
  have hb2 : BindsTo s (fnOf "__init__" qual params (iB f q1 q2 q3 q4) (iS f) dV kV doc pm an cdv ct) ⟨[.ref e, v], []⟩ [("self", .ref e), (f, v)] := hb s [.ref e, v] X rfl
  refine Att.call_fn (binds := [("self", .ref e), (f, v)]) X hlim ho hcd hroom hb2 ?_ (fun s₁ IC => ?_) rfl rfl rfl
  · show (List.all [(PySem.Str.ofString "self", Value.ref e), (f, v)] fun y => (iS f).names.lookup y.1 == some .local || (iS f).names.lookup y.1 == some .cell) = true
    simp only [List.all_cons, List.all_nil, ks, kf]
    rfl
  obtain ⟨h₁, tk₁, rfl⟩ := IC.toInCall.same
  have k : ∀ b o, s.heap.get? b = some o → h₁.get? b = some o := IC.toInCall.keep
  have hn := IC.toInCall.ns
  have X₁ : K.In h₁ := X.keeps k
  have hx₁ := k _ _ hx
  have ek1 : (envOfC qual (iS f) s.heap.objs.size fI cdv).kindOf f = some .local := kf
  have ek2 : (envOfC qual (iS f) s.heap.objs.size fI cdv).kindOf (PySem.Str.ofString "self") = some .local := ks
  have m1 : bindL (envOfC qual (iS f) s.heap.objs.size fI cdv).kindOf [("self", .ref e), (f, v)] (fun _ => none) f = some v := by
    have : ([("self", .ref e), (f, v)] : List (Str × Value)) = ([PySem.Str.ofString "self", f] : List Str).zip [.ref e, v] := rfl
    rw [this]
    exact L2.bindL_get (i := 1) (by simp only [List.nodup_cons, List.mem_singleton, List.not_mem_nil, not_false_eq_true, List.nodup_nil, and_true]; exact beq_eq_false_iff_ne.mp hself) rfl rfl ek1
  have m2 : bindL (envOfC qual (iS f) s.heap.objs.size fI cdv).kindOf [("self", .ref e), (f, v)] (fun _ => none) (PySem.Str.ofString "self") = some (.ref e) := by
    have : ([("self", .ref e), (f, v)] : List (Str × Value)) = ([PySem.Str.ofString "self", f] : List Str).zip [.ref e, v] := rfl
    rw [this]
    exact L2.bindL_get (i := 0) (by simp only [List.nodup_cons, List.mem_singleton, List.not_mem_nil, not_false_eq_true, List.nodup_nil, and_true]; exact beq_eq_false_iff_ne.mp hself) rfl rfl ek2
  show wpAny _ _ (execs _ _) _ _ _
  refine wpAny_execs_cons (plainObj_wpAny_Assign_Attribute ?_)
  refine ldC (v := v) hn m1 (ldC (v := .ref e) hn m2 ?_ rfl ek2 (by decide)) rfl ek1 T.ndbg
  refine set_plain X₁ (ox := excO C t0) (od := none) ⟨hx₁, rfl, rfl, trivial⟩ T.sa ?_
  refine osaT TF X₁ hx₁ hcl (show refsT tl (.ref C :: bm) = true from hbm) rfl T.noN (fun h₃ tk₃ dx k₃ dn dne hx₃ hn₃ => ?_)
  show wpAny _ _ (execs _ _) _ _ _
  have z : s.heap.objs.size < h₁.objs.size := hn.lt
  exact wpAny_execs_nil (hq h₃ tk₃ dx ⟨fun b o hb e => k₃ b o hb (k b o e), hx₃, Nat.le_of_lt (Nat.lt_of_lt_of_le z dn), dne, hn₃⟩)
theorem ex_made (T : EX1 K mg x f C fI) {v : Value} (X : K.In s.heap) (hlim : s.heap.NoLimit) (hroom : A.depth + 1 < recursionLimit)
    (hq : ∀ h' tk e d, OwnMade s.heap h' e C d f v → R (.ok (.ret (.ref e))) { s with heap := h', toks := tk }) :
    codeAny (model prog w) A (.call (.ref C) ⟨[v], []⟩) R s := by
  obtain ⟨B, newId, initId, tl, FB, TF, nm, q, N, bs, bm, sn, sub, ab, col, dd, k0, k1, k2, k3, k5, hC, hbm⟩ := T.cls
  obtain ⟨hp, g, dr, tk, os⟩ := s
  have k : ∀ b o, hp.get? b = some o → ((hp.push (kdv_tup [v])).push (excO C hp.objs.size)).get? b = some o := fun b o e => Heap.get?_push_of_some _ (Heap.get?_push_of_some _ e)
  have hget : ((hp.push (kdv_tup [v])).push (excO C hp.objs.size)).get? (hp.objs.size + 1) = some (excO C hp.objs.size) := by heap_get
  refine call_own FB (fun X => refsT_contains TF X bm hbm) (X _ _ hC) (looks_findIn X T.iC) (fun self => bind_fn X self T.tC) (one_size v) ?_
  refine ex_init (s := ⟨(hp.push (kdv_tup [v])).push (excO C hp.objs.size), g, dr, tk, os⟩) T (X.keeps k) (hlim.keeps k) hget ?_ fun h' tk' dx ⟨k', hx, dn, dne, hns⟩ => ?_
  · show A.depth + 1 < recursionLimit
    exact hroom
  · have old : ∀ b o, hp.get? b = some o → h'.get? b = some o := fun b o e => k' b o (Nat.ne_of_lt (Nat.lt_succ_of_lt (Heap.lt_size e))) (k b o e)
    have z : hp.objs.size + 1 + 1 ≤ dx := by
      first
        | (simpa only [Heap.size_push] using dn)
        | exact dn
    exact ⟨rfl, hq h' tk' (hp.objs.size + 1) dx ⟨old, Nat.le_succ _, ⟨_, _, hx, rfl, rfl, rfl⟩, Nat.le_trans (Nat.le_trans (Nat.le_succ _) (Nat.le_succ _)) z, dne, hns⟩⟩
end
end SpfX
end PySem
namespace Spf
open PySem PySem.Spec PyProof.Rows L2 L2H HotX PySem.SpfX PySem.HandSPX
theorem relO_one {v : V} {v' : Value} (fn : Str) (r : RelV v v') (f : Str) : RelO (List.lookup f [(fn, v)]) (if f = fn then some v' else none) := by
  by_cases hw : f = fn
  · subst hw
    rw [if_pos rfl]
    have q : List.lookup f [(f, v)] = some v := by simp [List.lookup]
    rw [q]
    exact r
  · rw [if_neg hw]
    have qw : (f == fn) = false := by simpa using hw
    have q2 : List.lookup f [(fn, v)] = none := by simp [List.lookup, qw]
    rw [q2]
    trivial
section
variable {X : Cx} {C fI : Addr} {x f : Str}
/-- x(e) -/
def tMkE (C : Addr) (f : Str) (ta : TA) : St → Hp → XK → Prop := fun σ H Q => ta σ H fun vs H1 => ∃ v, vs = [v] ∧ ∀ d, H1 d = none → Q (.ref C) (some d) (upd H1 d (.xd [(f, v)]))
theorem pmk_ex {a : Expr} {ta : TA} {p pos : Pos} {k : Nat} (T : EX1 X.K X.mg x f C fI) (hr : RoomH k X.A) (ha : PA X [a] ta) (hg : Gl X x) (hdb : (x == ("__debug__" : Str)) = false := by decide)
    (he : starEach (a :: []) X.env = (false, eval a X.env) :: starEach [] X.env := by rfl) (hpl : (backTo pos (starEach [] X.env)).any (·.1) = false := by rfl) :
    L2N.PMk X (.Call (.Name x p) [a] [] pos) (tMkE C f ta) := by
  intro pins s σ H Q I h
  refine wpAny_Call_Name_kw (ld_glob I hg T.gC ?_ hdb)
  refine PySem.W.callWith_K (h₀ := X.base) I.ok.mod.kin T.kC (thn (ha.run pos pins s σ H _ I h) fun us s1 hh => ?_) he hpl
  obtain ⟨vs, H1, I1, r1, v, ev, q1⟩ := hh
  subst ev
  refine ⟨I1.kIn, ?_⟩
  cases r1 with
  | cons rv rn =>
    rename_i v' us'
    cases rn
    show wpAny _ _ (call (.ref C) [v']) _ _ _
    have hlim := I1.nolimit
    obtain ⟨hp, g, dr, tk, os⟩ := s1
    refine wpAny_call (ex_made T I1.kIn hlim (by have := hr.dp; omega) fun h' tk' e d M => ?_)
    show L2N.MkP X pins σ Q (.ref e) ⟨h', g, dr, tk', os⟩
    obtain ⟨oe, t0, hoe, hc, hd, hdat⟩ := M.obj
    have hns := M.ns
    obtain ⟨G', g1, g2⟩ := restrict h' fun b => decide (b ≠ e)
    have gk : ∀ b, b ≠ e → G'.get? b = h'.get? b := fun b hb => g1 b (decide_eq_true hb)
    have ge : G'.get? e = none := g2 e (by simp)
    have old : ∀ b o, hp.get? b = some o → G'.get? b = some o := fun b o q => (gk b (Nat.ne_of_lt (Nat.lt_of_lt_of_le (Heap.lt_size q) M.new))).trans (M.keep b o q)
    have ob : ObjOk X.prog X.w (upd H1 d (.xd [(f, v)])) G' d (.xd [(f, v)]) :=
      ⟨_, hns.at (fun o q => (gk d M.dne).trans q), fun f' => relO_one f rv f'⟩
    have J : Inv X pins σ (upd H1 d (.xd [(f, v)])) ⟨G', g, dr, tk', os⟩ := I1.laid (t' := tk') old M.dbig ob
    refine ⟨e, oe, _, ⟨G', g, dr, tk', os⟩, _, .ref C, some d, rfl, J, fun b o q => ?_, ge, hoe, ⟨hc, hd, fun vs ev => by rw [hdat] at ev; cases ev; rfl⟩, hdat, rfl, ?_, rfl, I1.bare, raises_own T.exC T.tyC, q1 d (I1.hok.fresh M.dbig)⟩
    · by_cases hb : b = e
      · have q' : G'.get? b = some o := q
        rw [hb, ge] at q'; cases q'
      · exact (gk b hb).symm.trans q
    · rw [upd_ne (Ne.symm M.dne)]
      exact I1.hok.fresh M.new
end
end Spf
end
section
set_option maxHeartbeats 4000000
/-! Own layer 6: the handled exception asked (isinstance, its field) in a def that is called from the suite; exceptions made without or with built-in classes, told of their context. -/
namespace PySem.W
open PySem PySem.Spec PySem.Calls PyProof.Rows
section
variable {prog : Program} {w : World} {A : Around} {E : Value → Shared → Prop} {s : Shared} {K : Frag} {x D : Addr} {ox : Obj} {od : Option Obj}
theorem kin_classX {Q : Option Value → Shared → Prop} (hga : findIn K (.ref D) "__getattribute__" = some (some (.builtin "BaseException.__getattribute__"))) (hgt : findIn K (.ref D) "__getattr__" = some none) (hsub : subIn K (.ref D) (.type "BaseException") = some true)
    (hdct : hasDictIn K D = true) (ha : findIn K (.ref D) "__class__" = some (some (.builtin "object.__class__")))
    (hn : specialIn K (.builtin "object.__class__") "__get__" = some (some (.builtin "getset_descriptor.__get__"))) (htk : takesIn K (.builtin "object.__class__") = some true) (hm : mroIn K D (.type "object") = some true)
    (X : K.In s.heap) (I : InstAt s.heap x ox D od) (h : Q (some (.ref D)) { s with toks := s.toks + 1 }) : wpAny (model prog w) A (getAttr? (.ref x) "__class__") Q E s := by
  have hcD : (clsIn K D).isSome = true := by obtain ⟨cd, hc, _⟩ := any_some hdct; rw [hc]; rfl
  have hf : findObj K D od "__class__" = some (.bind (.builtin "getset_descriptor.__get__") (.builtin "object.__class__")) := by
    cases od with
    | none => exact findObj_dataN hcD ha hn htk
    | some _ => exact findObj_data hcD ha hn htk
  obtain ⟨hp, g, d, t, os⟩ := s
  have L0 := I.type (M := model prog w)
  have L1 := looks_findIn (M := model prog w) X hga
  have L2 := looks_findIn (M := model prog w) X hgt
  have L3 := looks_find (M := model prog w) X I hf
  have sub : Looks (model prog w) hp (isInstance (.ref x) (.type "BaseException")) true := L0.andThen (looks_subIn X hsub)
  have hx0 : (false && onTheHeap (Value.builtin "BaseException.__getattribute__")) = false := rfl
  have hx2 : (Value.builtin "BaseException.__getattribute__" == Value.builtin "object.__getattribute__") = false := by decide +kernel
  have hx1 : (onTheHeap (Value.ref D) && Value.builtin "BaseException.__getattribute__" == Value.builtin "object.__getattribute__") = false := by rw [hx2]; rfl
  unfold getAttr? getAttrBy? getAttrBy
  refine wpAny_bind (wpAny_mkText (wpAny_bind (wpAny_attempt (wpAny_holding (wpAny_bind (L0.at (wpAny_bind (L1.at ?_))))))))
  show wpAny _ _ (if (onTheHeap (Value.ref D) && Value.builtin "BaseException.__getattribute__" == Value.builtin "object.__getattribute__") = true then _ else _) _ _ _
  rw [hx1, if_neg Bool.false_ne_true]
  unfold getAttrByItsOwn hookBefore
  refine wpAny_bind ?_
  rw [if_pos (show onTheHeap (Value.ref D) = true from rfl)]
  refine L2.at ?_
  refine wpAny_bind (wpAny_attempt (wpAny_holding ?_))
  unfold callGetattribute
  rw [hx0, if_neg Bool.false_ne_true]
  unfold boundAndCalled
  rw [PySem.F.excAttr_ValueError.ga.bind (.ref x)]
  refine wpAny_bind (wpAny_pure ?_)
  show wpAny _ _ (call (.builtin "BaseException.__getattribute__") [.ref x, .str "__class__" t]) _ _ _
  refine wpAny_call (codeAny_call_builtin PySem.F.excAttr_ValueError.ga.plain PySem.F.entry_bexc_ga ?_)
  refine @check_slot (model prog w) _ _ ⟨hp, g, d, t + 1, os⟩ "BaseException.__getattribute__" "BaseException" "__getattribute__" (.ref x) [.str "__class__" t] [] _ (by decide +kernel) (by decide +kernel) sub (PySem.F.args_bexc_ga (.ref x) (.str "__class__" t)) ?_
  unfold Builtin.«object.__getattribute__»
  refine wpAny_bind (wpAny_of_eq (a := ((Value.ref x : Value), [Value.str "__class__" t])) (by first | rfl | (simp only [slotArgs]; rfl)) ?_)
  refine wpAny_bind (wpAny_pure (wpAny_bind (L0.at (wpAny_bind (L3.at ?_)))))
  show wpAny _ _ (holding [Value.builtin "object.__class__"] (call (.builtin "getset_descriptor.__get__") [.builtin "object.__class__", .ref x, .ref D]) >>= ret) _ _ _
  refine wpAny_bind (wpAny_holding (wpAny_call (class_get (s := ⟨hp, g, d, t + 1, os⟩) (ox := ox) (od := od) X I hm ?_)))
  refine wpAny_pure ?_
  show wpAny _ _ (handedOut (.ref D)) _ _ _
  rw [handedOut_of (v := .ref D) rfl]
  first
    | exact wpAny_pure (wpAny_pure h)
    | exact wpAny_pure h
    | exact wpAny_pure (wpAny_bind (wpAny_pure (wpAny_pure h)))
theorem kitx_excX (hga : findIn K (.ref D) "__getattribute__" = some (some (.builtin "BaseException.__getattribute__"))) (hgt : findIn K (.ref D) "__getattr__" = some none) (hsub : subIn K (.ref D) (.type "BaseException") = some true) (hdct : hasDictIn K D = true) (ha : findIn K (.ref D) "__class__" = some (some (.builtin "object.__class__")))
    (hn : specialIn K (.builtin "object.__class__") "__get__" = some (some (.builtin "getset_descriptor.__get__"))) (htk : takesIn K (.builtin "object.__class__") = some true) (hm : mroIn K D (.type "object") = some true) :
    KitX K (.ref x) (.ref D) (fun h => InstAt h x ox D od) where
  ty := fun _ _ _ I => I.type
  it := fun _ _ X _ => by
    obtain ⟨cdD, hcD, _⟩ := any_some hdct
    unfold clsIn at hcD
    split at hcD
    · rename_i c' d' cd' sl' ho
      intro A' Q' E' s' k q
      unfold isType loadHead
      exact wpAny_bind (wpAny_loadPart (k _ _ (X _ _ ho)) (wpAny_pure q))
    · cases hcD
  ne := fun h tp dd its n sl X htp => by
    obtain ⟨cdD, hcD, _⟩ := any_some hdct
    refine Bool.eq_false_iff.mpr fun q => ?_
    have e : D = tp := Value.ref.inj (beq_iff_eq.mp q)
    subst e
    unfold clsIn at hcD
    split at hcD
    · rename_i c' d' cd' sl' ho
      have z := (X _ _ ho).symm.trans htp
      cases z
    · cases hcD
  ca := fun X I k => kin_classX hga hgt hsub hdct ha hn htk hm X I k
end
end PySem.W
namespace Spf
open PySem PySem.Spec PyProof.Rows L2 L2H HotX
/-! ### a def that runs, at one state -/
theorem run_ofX {CX : CXT} {P : Program} {w : World} {K : PySem.W.Frag} {mg : Str → Option Value} {base : Heap} {g h : Bool} {k : Nat} {f : Addr} {name qual : Str} {params : Arguments} {body : List Stmt} {scope : Scope} {dV kV doc pm cdv ct oc : Value} {an od : Option Addr}
    {osl : Array (Option Value)} {N ps : List Str} (lk : K.lookup f = some ⟨oc, od, .func (PySem.W.fnOf name qual params body scope dV kV doc pm an cdv ct), osl⟩) (hcd : PySem.W.codeIn K cdv qual = true) (S : FnScope N ps scope)
    {A : Around} {outer : List Env} {s : Shared} {H : Hp} {args : Args} {us : List Value} {vs : List V} {Q : VK} {E : XK} {p : Addr × Obj} (hr : RmX g h (k + 1) A p) (hpin : h = true → PinOk outer H s p) (e0 : Env0 P w K mg base A outer s H)
    (hb : BindsTo s (PySem.W.fnOf name qual params body scope dV kV doc pm an cdv ct) args (ps.zip us)) (r : Vals vs us) (hl : vs.length = ps.length)
    (hbody : Cxt (cxX CX P w K mg base N qual scope f cdv A outer s H E h p) g h k p → ∃ t, PSs (cxX CX P w K mg base N qual scope f cdv A outer s H E h p) body t ∧ t { nx := fun _ H' => Q .non H', rt := Q } (L2.start N vs) H) :
    codeAny (model P w) A (.call (.ref f) args) (CR CX outer P w H s Q E) s := by
  have KX : K.In s.heap := e0.mod.kin.keeps fun b o e => (e0.bs b o e).1
  have lim : s.heap.NoLimit := e0.mod.nolimit.keeps fun b o e => (e0.bs b o e).1
  have hkind : ∀ y ∈ ps.zip us, scope.names.lookup y.1 = some .local ∨ (scope.names.lookup y.1 = some .cell ∧ ((cellsFrom (s.heap.objs.size + 1) scope.names []).lookup y.1).isSome = true) := fun ⟨n, v⟩ hy => by
    rcases S.par n (List.of_mem_zip hy).1 with q | q
    · exact .inl q
    · exact .inr ⟨q, PySem.W.cellsFrom_some _ _ _ (.inl q)⟩
  refine codeAny_call_function hr.room.depth (KX _ _ lk) rfl S.co S.gen rfl (PySem.W.codeRec_of KX hcd) (hb _ _ _ _ ?_)
  refine wpAny_newFunctionEnv_cells S.kind hkind fun env he s1 x => ?_
  subst he
  refine ⟨lim.keeps x.toInCall.keep, codeAny_func ?_⟩
  have ct : Cxt (cxX CX P w K mg base N qual scope f cdv A outer s H E h p) g h k p := ⟨hr.deeper _, rfl, fun z => by
    subst z
    exact List.mem_singleton.mpr rfl⟩
  obtain ⟨t, ht, hq⟩ := hbody ct
  have I : Inv (cxX CX P w K mg base N qual scope f cdv A outer s H E h p) [] (L2.start N vs) H s1 := by
    cases h with
    | false => exact inv_start S (hr.calm rfl) e0 hl r x
    | true => exact inv_startH S (hpin rfl) e0 hl r x
  refine wpAny_mono (ht.run [] s1 (L2.start N vs) H _ I hq) (fun fl s' hs => ?_) fun e s' hs => hs
  have fin : ∀ {σ' : St} {H' : Hp} {v : V} {u : Value}, Inv (cxX CX P w K mg base N qual scope f cdv A outer s H E h p) [] σ' H' s' → RelV v u → Q v H' → CE outer P w H s Q u s' :=
    fun {σ' H' v u} J rv q => ⟨v, H', J.os, J.bare, J.base, J.hok, rv, q⟩
  cases fl with
  | ret u =>
    obtain ⟨v, σ', H', J, rv, q⟩ := hs
    exact fin J rv q
  | next =>
    obtain ⟨σ', H', J, q⟩ := hs
    exact fin (v := V.non) (u := Value.none) J rfl q
  | brk =>
    obtain ⟨_, _, _, q⟩ := hs
    exact False.elim q
  | cont =>
    obtain ⟨_, _, _, q⟩ := hs
    exact False.elim q
/-- a def's promise for the one exception p that is handled -/
structure FnXp (P : Program) (w : World) (K : PySem.W.Frag) (mg : Str → Option Value) (base : Heap) (CX : CXT) (g : Bool) (k : Nat) (f : Addr) (fd : FuncData) (ps : List Str) (sp : Sp) (p : Addr × Obj) : Prop where
  len : ∀ vs H Q E, sp vs H Q E → vs.length = ps.length
  run : ∀ (A : Around) (outer : List Env) (s : Shared) (H : Hp) (args : Args) (us : List Value) (vs : List V) (Q : VK) (E : XK), RmX g true k A p → PinOk outer H s p → Env0 P w K mg base A outer s H → BindsTo s fd args (ps.zip us) → Vals vs us → sp vs H Q E →
    codeAny (model P w) A (.call (.ref f) args) (CR CX outer P w H s Q E) s
theorem funXp {P : Program} {w : World} {K : PySem.W.Frag} {mg : Str → Option Value} {base : Heap} {CX : CXT} {g : Bool} {k : Nat} {x qual : Str} {st : Stmt} {f : Addr} {fd : FuncData} {N ps : List Str} {sp : Sp} {p : Addr × Obj} (F : Fun K x qual st f fd) (S : FnScope N ps (defScope st))
    (len : ∀ vs H Q E, sp vs H Q E → vs.length = ps.length)
    (hbody : ∀ (cdv : Value) (A : Around) (outer : List Env) (s : Shared) (H : Hp) (vs : List V) (Q : VK) (E : XK), Cxt (cxX CX P w K mg base N qual (defScope st) f cdv A outer s H E true p) g true k p → sp vs H Q E →
      ∃ t, PSs (cxX CX P w K mg base N qual (defScope st) f cdv A outer s H E true p) (defBody st) t ∧ t { nx := fun _ H' => Q .non H', rt := Q } (L2.start N vs) H) : FnXp P w K mg base CX g (k + 1) f fd ps sp p := by
  obtain ⟨oc, od, kV, doc, pm, an, cdv, ct, osl, rfl, lk, hcd⟩ := F.ex
  exact ⟨len, fun A outer s H args us vs Q E hr hpin e0 hb r hsp => run_ofX lk hcd S hr (fun _ => hpin) e0 hb r (len _ _ _ _ hsp) fun ct => hbody cdv A outer s H vs Q E ct hsp⟩
section
variable {X : Cx} {g g' : Bool} {k : Nat} {f : Addr} {fd : FuncData} {ps : List Str} {sp : Sp} {x : Str} {q pos : Pos} {e : Expr} {es : List Expr} {t : TA} {p : Addr × Obj}
theorem pe_callXp (F : FnXp X.prog X.w X.K X.mg X.base CX0 g' k f fd ps sp p) (c : Cxt X g true k p) (hgl : g' = true → g = true) (hg : Gl X x) (hm : X.mg x = some (.ref f)) (hk : PySem.W.keepIn X.K (.ref f) = true) (hb : Binds X.K fd ps [])
    (ha : PA X (e :: es) t) (hdb : (x == ("__debug__" : Str)) = false := by decide) (he : starEach (e :: es) X.env = (false, eval e X.env) :: starEach es X.env := by rfl) (hpl : (backTo pos (starEach es X.env)).any (·.1) = false := by rfl) :
    PE X (.Call (.Name x q) (e :: es) [] pos) (tCallS sp (fun _ => E0) t) := by
  refine ⟨fun pins s σ H Q I hh => ?_⟩
  refine wpAny_Call_Name_kw (ld_glob I hg hm ?_ hdb)
  refine PySem.W.callWith_K (h₀ := X.base) I.ok.mod.kin hk (thn (ha.run pos pins s σ H _ I hh) fun us s1 ⟨vs, H1, I1, r, hq⟩ => ⟨I1.kIn, ?_⟩) he hpl
  have hl : us.length = ps.length := by rw [← r.length]; exact F.len _ _ _ _ hq
  have b := hb s1 us I1.kIn (by rw [List.append_nil]; exact hl)
  rw [List.append_nil] at b
  refine wpAny_call (codeAny_mono (F.run X.A X.stack s1 H1 ⟨us, []⟩ us vs Q E0 (c.rm.less hgl) (pinok I1 (c.pin rfl)) I1.env0 b r hq) fun r s' hq => ?_)
  cases r with
  | error e => exact False.elim hq
  | ok fl =>
    cases fl with
    | ret u => exact I1.after hq
    | next => exact False.elim hq
    | brk => exact False.elim hq
    | cont => exact False.elim hq
end
/-! ### the handled exception -/
/-- the record of the exception at dd, where it has one -/
def XdOk (H : Hp) (d : Option Addr) : Prop := ∀ dd, d = some dd → ∃ fs, H dd = some (.xd fs)
theorem inst_pin {X : Cx} {pins : List (Addr × Obj)} {σ : St} {H : Hp} {s : Shared} {p : Addr × Obj} {D : Addr} {d : Option Addr} (I : Inv X pins σ H s) (hp : p ∈ X.pn) (hz : Zc (.ref D) d p.2) (hf : ∃ vs, p.2.data = .fields vs) (hx : XdOk H d) :
    ∃ od, PySem.W.InstAt s.heap p.1 p.2 D od ∧ (∀ dd fs, d = some dd → H dd = some (.xd fs) → ∃ mA o, od = some o ∧ s.heap.Ns1 dd mA ∧ (∀ name, PySem.W.lookIn name o = some (mA name)) ∧ ∀ f, RelO (fs.lookup f) (mA f)) := by
  obtain ⟨ha, _⟩ := I.pin p (List.mem_append_left _ hp)
  obtain ⟨vs, hd⟩ := hf
  cases d with
  | none =>
    refine ⟨none, ?_, fun dd fs e => by cases e⟩
    obtain ⟨pa, oc, od, oda, osl⟩ := p
    obtain ⟨h1, h2⟩ := hz
    dsimp only at h1 h2 hd ha
    subst h1 h2 hd
    exact ⟨ha, rfl, rfl, trivial⟩
  | some dd =>
    obtain ⟨fs, ea⟩ := hx dd rfl
    have hxo : ObjOk X.prog X.w H s.heap dd (.xd fs) := I.hok dd _ ea
    obtain ⟨mA, hns, hr⟩ := hxo
    obtain ⟨od, ho, hl⟩ := lookIn_ns hns
    refine ⟨some od, ⟨ha, hz.1, by unfold PySem.W.notCls; rw [hd] <;> rfl, by rw [hz.2]; exact ho⟩, fun dd' fs' e1 e2 => ?_⟩
    cases e1
    rw [ea] at e2; cases e2
    exact ⟨mA, od, rfl, hns, hl, hr⟩
/-- isinstance(e, c) of the pinned exception -/
def rIsP (K : PySem.W.Frag) (D a : Addr) (d : Option Addr) : List V → Hp → VK → Prop := fun xs H Q => ∃ (c : V) (cv : Value) (b : Bool), xs = [.ref a, c] ∧ (∀ u, RelV c u → u = cv) ∧ PySem.W.kitOne K (.ref D) cv = some b ∧ XdOk H d ∧ Q (.bl b) H
theorem call_isP {X : Cx} {D : Addr} {d : Option Addr} {p : Addr × Obj} (hp : p ∈ X.pn) (C : ExcC X.K D) (hz : Zc (.ref D) d p.2) (hf : ∃ vs, p.2.data = .fields vs) : CallR X (.builtin "isinstance") (rIsP X.K D p.1 d) := by
  intro pins s σ H xs us Q I r h
  obtain ⟨c, cv, b, rfl, hcv, e, hx, q⟩ := h
  cases r with
  | cons rx rr =>
    cases rr with
    | cons rt rr =>
      cases rr
      cases rx
      have ec := hcv _ rt
      subst ec
      obtain ⟨od, J, _⟩ := inst_pin I hp hz hf hx
      exact PySem.W.kia_one (PySem.W.kitx_excX C.hg C.hk C.hs C.hd C.ha C.hn C.ht C.hm) I.kIn J e (fun z => nomatch z) fun tk => ⟨.bl b, H, I.kept (t' := tk) fun _ _ z => z, rfl, q⟩
/-- e.n of the pinned exception -/
def tXp (a : Addr) (d : Option Addr) (n : Str) (te : TE) : TE := fun σ H Q => te σ H fun x H1 => x = .ref a ∧ ∃ (dd : Addr) (fs : List (Str × V)) (v : V), d = some dd ∧ H1 dd = some (.xd fs) ∧ fs.lookup n = some v ∧ Q v H1
theorem pe_xp {X : Cx} {C : Addr} {d : Option Addr} {p : Addr × Obj} {e : Expr} {te : TE} {pos : Pos} {n : Str} (hp : p ∈ X.pn) (T : XfC X.K C) (hno : PySem.W.findIn X.K (.ref C) n = some none)
    (hz : Zc (.ref C) d p.2) (hf : ∃ vs, p.2.data = .fields vs) (he : PE X e te) (hb : attributeBase e n X.env (eval e X.env) = eval e X.env := by rfl) :
    PE X (.Attribute e n pos) (tXp p.1 d n te) := by
  refine ⟨fun pins s σ H Q I h => ?_⟩
  refine attr_of hb (thn (he.run pins s σ H _ I h) fun u s1 hh => ?_)
  obtain ⟨x, H1, I1, rx, ex, dd, fs, v, ed, ea, l, q⟩ := hh
  subst ex
  obtain rfl : u = Value.ref p.1 := rx
  obtain ⟨od, J, hk⟩ := inst_pin I1 hp hz hf (fun dd' e' => by rw [ed] at e'; cases e'; exact ⟨fs, ea⟩)
  obtain ⟨mA, o, rfl, hns, hl, hr⟩ := hk dd fs ed ea
  obtain ⟨u, hu, ru⟩ := RelO.some_of (v := v) (o := mA n) (by rw [← l]; exact hr n)
  exact HandSPX.exc_get I1.kIn J T.ga T.gg T.exC (PySem.W.findObj_own T.hdC hno rfl (by rw [hl, hu])) (handed_of ru) ⟨v, H1, I1.tok _, ru, q⟩
/-! ### exceptions made -/
section
variable {X : Cx} {C : Addr} {bmB : List Value} {B newId initId : String} {x : Str} {p pos : Pos}
/-- x() of an own class without __init__ -/
theorem pmk_own0 (F : ExcBaseFacts B newId initId bmB) (q : PySem.W.excIn X.K C bmB newId = true) (gC : X.mg x = some (.ref C)) (kC : PySem.W.keepIn X.K (.ref C) = true) (r : Raises X (.ref C)) (hg : Gl X x)
    (hdb : (x == ("__debug__" : Str)) = false := by decide) : L2N.PMk X (.Call (.Name x p) [] [] pos) (fun _ H Q => Q (.ref C) none H) := by
  intro pins s σ H Q I h
  refine wpAny_Call_Name_kw (ld_glob I hg gC ?_ hdb)
  refine PySem.W.callWith_K0 I.kIn kC ?_
  show wpAny _ _ (call (.ref C) []) _ _ _
  obtain ⟨bm, N, nm, qn, bs, hdct, sn, sub, ab, col, dd, k0, k1, k2, k3, k5, mN, hC, hN, hni, T⟩ := exc_obj I.kIn q
  exact wpAny_call_exc_subT F T hC hN hni (fun h' e hm => L2N.mk_of I hm r h (I.hok.gone hm.new)) (Nat.zero_le _)
variable {T N I : String} {e : Expr} {es : List Expr} {t : TA}
/-- T(e, ..) of a built-in class (KeyError) -/
theorem pmk_excN (hc : ExcClass T N I) (ty : typeOf (.type T) = pure (.type "type")) (hg : Gl X x) (hm : X.mg x = none) (hv : bootBuiltins x = some (.type T)) (ha : PA X (e :: es) t) (hn : x ≠ "__name__" := by decide) (hdb : (x == ("__debug__" : Str)) = false := by decide)
    (he : starEach (e :: es) X.env = (false, eval e X.env) :: starEach es X.env := by rfl) (hpl : (backTo pos (starEach es X.env)).any (·.1) = false := by rfl) :
    L2N.PMk X (.Call (.Name x p) (e :: es) [] pos) (fun σ H Q => t σ H fun vs H1 => vs.length ≤ sizeLine ∧ ∀ d, Q (.type T) d H1) := by
  intro pins s σ H Q J h
  refine wpAny_Call_Name_kw (ld_blt J hg hm hv ?_ hn hdb)
  refine PyProof.Rows.callWith_type1 (thn (ha.run pos pins s σ H _ J h) fun us s1 hh => ?_) he hpl
  obtain ⟨vs, H1, I1, r1, q0, q1⟩ := hh
  refine PyProof.Rows.call_exc hc (fun h' a mk => ?_) (Nat.le_trans (Nat.le_of_eq r1.length.symm) q0)
  obtain ⟨ob, t0, ha', hcls, hd⟩ := mk.there
  exact ⟨a, ob, _, s1, H1, .type T, ob.dict, rfl, I1, mk.keeps, mk.new, ha', ⟨hcls, rfl, fun vs ev => by rw [hd] at ev; cases ev; rfl⟩, hd, rfl, I1.hok.gone mk.new, rfl, I1.bare, (fun _ _ _ => ⟨PySem.W.Looks.of_pure hc.base, PySem.W.Looks.of_pure ty⟩), q1 ob.dict⟩
end
end Spf
end
section
set_option maxHeartbeats 4000000
/-! Own layer 7: own special methods: o[k], o[k] = v, in, not in, len, bool, !=; methods and calls of classes in both modes. -/
namespace PySem.W
open PySem PySem.Calls PyProof.Rows
section
variable {prog : Program} {w : World} {A : Around} {E : Value → Shared → Prop} {s : Shared}
theorem callType_in {T newId initId : String} {Bn Bi : Builtin} {args : List Value} {S : Spec} {Q Q₁ : Value → Shared → Prop} (ft : TypeCalled T newId initId)
    (hct : checkTypeCall T ⟨args, []⟩ = pure ()) (hcn : checkBuiltinCall newId ⟨.type T :: args, []⟩ = pure ())
    (entryN : entryFor table newId = some Bn) (entryI : entryFor table initId = some Bi) (g : MeetsIn prog w (Bn ⟨.type T :: args, []⟩) S)
    (h : S A.in1 (wants Q₁ E) s)
    (hnext : ∀ obj s₁, Q₁ obj s₁ → s₁.TypeIs obj T ∧ argsOk initId ⟨obj :: args, []⟩ ∧ ∃ Si, Meets (Bi ⟨obj :: args, []⟩) Si ∧ Si A.in1 (wants (fun r s₂ => r = .none ∧ Q obj s₂) E) s₁) :
    wpAny (model prog w) A (call (.type T) args) Q E s := by
  obtain ⟨c, tl, hmro⟩ := ft.mro
  have hmade := ft.made
  have hsub := ft.sub
  refine wpAny_call (codeAny_of_tree ?_)
  show wpAny _ _ (callAny (.type T) _) _ _ _
  refine wpAny_pure ⟨Code.quiet_builtin _ (by decide +kernel), codeAny_builtin F.entry_type_call ?_⟩
  rw [Around.under_plain (weight_type_call_type T args []) (units_type_call_type T args [])]
  have h1 := ft.notType
  have h2 := ft.canCreate
  repeat (any_goals (first | assumption | wp_step))
  refine codeAny_mono (codeAny_call_builtin ft.plain entryN (wpAny_of_eq hcn (g A.in1 _ s h))) fun r s₁ hr => ?_
  cases r with
  | error e => exact hr
  | ok fl =>
    cases fl with
    | ret obj =>
      obtain ⟨hT, hok, Si, gi, hsi⟩ := hnext _ _ hr
      have hli := ft.init.lookup
      have hbi := ft.init.bind obj
      repeat (any_goals (first | assumption | wp_step))
      refine codeAny_mono (codeAny_call_builtin ft.init.plain entryI (ft.init.check _ _ _ _ _ _ _ _ hT hok (gi prog w A.in1 _ s₁ hsi))) fun r₂ s₂ hr₂ => ?_
      cases r₂ with
      | error e => exact hr₂
      | ok fl₂ =>
        cases fl₂ with
        | ret r =>
          obtain ⟨rfl, hq⟩ := hr₂
          repeat (any_goals (first | assumption | wp_step))
        | _ => exact hr₂.elim
    | _ => exact hr.elim
/-- bool(x), by x's truth -/
theorem call_bool_tru {x : Value} {Q : Value → Shared → Prop} (h : wpAny (model prog w) A.in1.in1 (truthy x) (fun b s' => Q (.bool b) s') E s) : wpAny (model prog w) A (call (.type "bool") [x]) Q E s := by
  refine callType_in F.called_bool (F.typeCall_bool_1 x) (F.newCall_bool_1 x) F.entry_bool_new F.entry_object_init (S := fun A R s => wpAny (model prog w) A.in1 (truthy x) (fun b s' => R (.ok (.ret (.bool b))) s') (fun e s' => R (.error e) s') s) (Q₁ := fun obj s₁ => s₁.TypeIs obj "bool" ∧ Q obj s₁) ?_ ?_ ?_
  · refine MeetsIn.of_wp fun A R s hs => ?_
    have f1 := F.conv_sub_bool
    unfold Builtin.«bool.__new__»
    dsimp only
    wp_walk
    exact wpAny_mono (show wpAny (model prog w) A.in1 (truthy x) _ _ s from hs) (fun b s' q => wpAny_pure ⟨_, rfl, q⟩) fun _ _ z => z
  · refine wpAny_mono h (fun b s' q => ⟨rfl, q⟩) fun _ _ z => z
  · exact fun obj s₁ hq => ⟨hq.1, F.args_object_init_2 obj x, _, object_init_meets F.called_bool.init.lookup F.called_bool.made F.newNe_bool, hq.1, rfl, hq.2⟩
end
section
variable {prog : Program} {w : World} {A : Around} {E : Value → Shared → Prop} {s : Shared} {K : Frag} {x C L f : Addr} {h₀ : Heap} {m : Str → Option Value} {ox : Obj} {od : Option Obj} {b tb : Value}
theorem ifBound_B {M : Model} {id : String} {name : Str} {args : List Value} {Q : Option Value → Shared → Prop} (X : K.In s.heap) (I : InstAt s.heap x ox C od) (hs : findIn K (.ref C) name = some (some (.builtin id))) (hb : ∀ self, bindSpecial (.builtin id) self = pure (.builtin id, [self]))
    (h : wpAny M A (call (.builtin id) (.ref x :: args)) (fun v => Q (some v)) E s) : wpAny M A (callSpecialIfBound? (.ref x) name args) Q E s := by
  simp only [callSpecialIfBound?, bindSpecialIfBound?]
  refine wpAny_holding (wpAny_bind (wpAny_bind (wpAny_bind (I.type.here ((looks_findIn X hs).here ?_)))))
  refine wpAny_bind (wpAny_askSetting (wpAny_ite ?_))
  have fin : wpAny M A (call (.builtin id) ([.ref x] ++ args) >>= fun v => pure (some v)) Q E s := wpAny_bind (wpAny_mono h (fun v s' h' => wpAny_pure h') fun _ _ h' => h')
  split
  · rw [hb]
    exact wpAny_bind (wpAny_pure (wpAny_pure (by exact fin)))
  · rw [hb]
    exact wpAny_tryCatch (wpAny_bind (wpAny_pure (wpAny_pure (by exact fin))))
/-- x != b, by x's own __eq__ -/
theorem ne_K {Q : Value → Shared → Prop} (hu : A.units + 1 < cLine) (FR : Fr h₀ L s.heap m) (X₀ : K.In h₀) (I : InstAt s.heap x ox C od) (hb : Looks (model prog w) s.heap (typeOf b) tb) (hn : notFirst K C tb = true)
    (hne : findIn K (.ref C) "__ne__" = some (some (.builtin "object.__ne__"))) (hob : mroIn K C (.type "object") = some true) (hs : findIn K (.ref C) "__eq__" = some (some (.ref f))) (hf : isFn K (.ref f) = true)
    (h : wpAny (model prog w) A.in1 (call (.ref f) [.ref x, b]) (fun v s' => ∃ k, v = .bool k ∧ Q (.bool (!k)) s') E s) : wpAny (model prog w) A (richCompare .NotEq (.ref x) b) Q E s := by
  have X := X₀.keeps FR.keep
  have sub : Looks (model prog w) s.heap (isInstance (.ref x) (.type "object")) true := I.type.andThen (looks_mroIn X hob)
  have one : wpAny (model prog w) A (tryCompare (.ref x) (cmpInfo .NotEq).2.1 b) (fun r s' => ∃ v, r = some v ∧ Q v s') E s := by
    unfold tryCompare
    refine wpAny_bind (ifBound_B X I hne F.cmp_object.ne.bind ?_)
    refine wpAny_call (codeAny_call_builtin F.cmp_object.ne.plain F.cmpEntry_ne ?_)
    refine @check_slot (model prog w) _ _ s "object.__ne__" "object" "__ne__" (.ref x) [b] [] _ F.cmpKind_ne F.cmpSplit_ne sub (F.cmpArgs_ne (.ref x) b) ?_
    unfold Builtin.«object.__ne__»
    refine wpAny_bind (wpAny_of_eq (a := ((Value.ref x : Value), [b])) (by first | rfl | (simp only [slotArgs]; rfl)) ?_)
    refine wpAny_bind (wpAny_cRoomFor (by show A.units + 1 < cLine; exact hu) ?_)
    refine wpAny_bind (ifBound_K X I hs hf (wpAny_mono h (fun v s' hv => ?_) fun _ _ e => e))
    obtain ⟨k, rfl, hq⟩ := hv
    refine wpAny_bind (wpAny_truthy_bool ?_)
    exact wpAny_pure (wpAny_pure ⟨_, rfl, hq⟩)
  unfold richCompare
  simp only [oneThing_ref]
  refine wpAny_holding (wpAny_bind (wpAny_cRoomFor (by omega) ?_))
  refine wpAny_bind (I.type.here (wpAny_bind (hb.here ?_)))
  split
  · rename_i q
    have e : subIn K tb (.ref C) = some false := by
      rcases Bool.or_eq_true_iff.mp hn with e | e
      · rw [beq_iff_eq.mp e] at q; simp at q
      · exact beq_iff_eq.mp e
    refine wpAny_bind ((looks_subIn X e).here ?_)
    simp only [Bool.false_eq_true, if_false]
    refine wpAny_bind (wpAny_mono one (fun r s' z => ?_) fun _ _ e => e)
    obtain ⟨v, rfl, hq⟩ := z
    exact wpAny_pure hq
  · refine wpAny_bind (wpAny_pure ?_)
    simp only [Bool.false_eq_true, if_false]
    refine wpAny_bind (wpAny_mono one (fun r s' z => ?_) fun _ _ e => e)
    obtain ⟨v, rfl, hq⟩ := z
    exact wpAny_pure hq
end
end PySem.W
namespace Spf
open PySem PySem.Spec PyProof.Rows L2 L2H HotX
section
variable {X : Cx} {CX : CXT} {g g' h : Bool} {k : Nat} {f C : Addr} {fd : FuncData} {ps : List Str} {sp : Sp} {p : Addr × Obj}
/-- a reference's own relation -/
theorem rrf (a : Addr) : RelV (.ref a) (.ref a) := rfl
/-- the callee runs within a built-in -/
theorem run_in1 {pins : List (Addr × Obj)} {σ : St} {H : Hp} {s : Shared} {Q : VK} {us : List Value} {vs : List V} {E : Value → Shared → Prop} (F : FnX X.prog X.w X.K X.mg X.base CX0 g' h k f fd ps sp) (c : Cxt X g h (k + 1) p) (hgl : g' = true → g = true) (hb : Binds X.K fd ps [])
    (I : Inv X pins σ H s) (r : Vals vs us) (hq : sp vs H Q E0) : wpAny (model X.prog X.w) X.A.in1 (call (.ref f) us) (EP X pins σ Q) E s := by
  have hl : us.length = ps.length := by rw [← r.length]; exact F.len _ _ _ _ hq
  have b := hb s us I.kIn (by rw [List.append_nil]; exact hl)
  rw [List.append_nil] at b
  refine wpAny_call (codeAny_mono (F.run X.A.in1 X.stack s H ⟨us, []⟩ us vs Q E0 p (c.rm.in1.less hgl) (fun z => pinok I (c.pin z)) I.env0.in1 b r hq) fun r s' hq => ?_)
  cases r with
  | error e => exact False.elim hq
  | ok fl =>
    cases fl with
    | ret u => exact I.after hq
    | next => exact False.elim hq
    | brk => exact False.elim hq
    | cont => exact False.elim hq
/-- two steps within -/
theorem run_in2 {pins : List (Addr × Obj)} {σ : St} {H : Hp} {s : Shared} {Q : VK} {us : List Value} {vs : List V} {E : Value → Shared → Prop} (F : FnX X.prog X.w X.K X.mg X.base CX0 g' h k f fd ps sp) (c : Cxt X g h (k + 2) p) (hgl : g' = true → g = true) (hb : Binds X.K fd ps [])
    (I : Inv X pins σ H s) (r : Vals vs us) (hq : sp vs H Q E0) : wpAny (model X.prog X.w) X.A.in1.in1 (call (.ref f) us) (EP X pins σ Q) E s := by
  have hl : us.length = ps.length := by rw [← r.length]; exact F.len _ _ _ _ hq
  have b := hb s us I.kIn (by rw [List.append_nil]; exact hl)
  rw [List.append_nil] at b
  refine wpAny_call (codeAny_mono (F.run X.A.in1.in1 X.stack s H ⟨us, []⟩ us vs Q E0 p (c.rm.in1.in1.less hgl) (fun z => pinok I (c.pin z)) I.env0.in1.in1 b r hq) fun r s' hq => ?_)
  cases r with
  | error e => exact False.elim hq
  | ok fl =>
    cases fl with
    | ret u => exact I.after hq
    | next => exact False.elim hq
    | brk => exact False.elim hq
    | cont => exact False.elim hq
theorem inst_of {pins : List (Addr × Obj)} {σ : St} {H : Hp} {s : Shared} {a dx : Addr} {fs : List (Str × V)} (I : Inv X pins σ H s) (e : H a = some (.ins C dx fs)) : ∃ ox od, PySem.W.InstAt s.heap a ox C (some od) := by
  obtain ⟨mA, O, _, _, _, _⟩ := ins_get I.hok e
  obtain ⟨od, J, _⟩ := O.look
  exact ⟨_, od, J⟩
/-- a method that a special name finds -/
structure SMeth (K : PySem.W.Frag) (C : Addr) (m : Str) (f : Addr) : Prop where
  at_ : PySem.W.findIn K (.ref C) m = some (some (.ref f))
  fn : PySem.W.isFn K (.ref f) = true
  fin : PySem.W.fnIn K f = true
/-- o[k] -/
def rGetO (C : Addr) (sp : Sp) : R2 := fun x y H Q => ∃ a dx fs, x = .ref a ∧ H a = some (.ins C dx fs) ∧ sp [x, y] H Q E0
theorem pe_getO {a b : Expr} {ta tb : TE} {pos : Pos} (m : SMeth X.K C "__getitem__" f) (F : FnX X.prog X.w X.K X.mg X.base CX0 g' h k f fd ps sp) (c : Cxt X g h (k + 1) p) (hgl : g' = true → g = true) (hb : Binds X.K fd ps []) (ha : PE X a ta) (hbb : PE X b tb)
    (hsl : ∀ o i, subscripted b true o i = runValue (.builtin "lifetime.subscript" ⟨[o, i], []⟩) := by intro _ _; with_unfolding_all rfl) : PE X (.Subscript a b pos) (tOp (rGetO C sp) ta tb) := by
  refine ⟨fun pins s σ H Q I hh => ?_⟩
  refine Subscript_ (binT ha hbb I hh fun v u s2 x y H2 I2 rx ry q => ?_)
  obtain ⟨o, dx, fs, rfl, ea, q⟩ := q
  obtain rfl : v = Value.ref o := rx
  obtain ⟨ox, od, J⟩ := inst_of I2 ea
  obtain ⟨mf, Fm⟩ := I2.fr
  exact PySem.W.sub_K Fm I2.mod.kin J m.at_ m.fin m.fn (run_in1 F c hgl hb I2 (.cons (rrf _) (.cons ry .nil)) q) (hsl _ _)
/-- o[k] = v, which may raise -/
def tSetO (C : Addr) (sp : Sp) (E : XK) : TSet := fun o i v H Q => ∃ a dx fs, o = .ref a ∧ H a = some (.ins C dx fs) ∧ sp [o, i, v] H (fun _ H' => Q H') E
theorem set_own {E : XK} (m : SMeth X.K C "__setitem__" f) (hq : PySem.W.noSeq X.K C = true) (F : FnX X.prog X.w X.K X.mg X.base CX g' h k f fd ps sp) (c : Cxt X g h k p) (hgl : g' = true → g = true) (hb : Binds X.K fd ps []) (hx : ∀ σ, PassesAt CX X σ E) : PSet X (tSetO C sp E) := by
  intro pins s σ H o i v ov iv u Q I ro ri rv hh
  obtain ⟨a, dx, fs, rfl, ea, q⟩ := hh
  obtain rfl : ov = Value.ref a := ro
  obtain ⟨ox, od, J⟩ := inst_of I ea
  obtain ⟨mf, Fm⟩ := I.fr
  refine PySem.W.ksp_setItem Fm I.mod.kin J hq m.at_ m.fn ?_
  exact thn (run_fnX (E := fun _ => E) F c hgl hb (hx σ) I (.cons (rrf _) (.cons ri (.cons rv .nil))) q) fun w s' ⟨_, H', I', _, q'⟩ => ⟨H', I', q'⟩
/-- v not in o (v in o) -/
def rInO (n : Bool) (C : Addr) (sp : Sp) : R2 := fun x y H Q => ∃ a dx fs, y = .ref a ∧ H a = some (.ins C dx fs) ∧ sp [y, x] H (fun v H' => ∃ b, v = .bl b ∧ Q (.bl (if n then !b else b)) H') E0
theorem op_notInO (m : SMeth X.K C "__contains__" f) (F : FnX X.prog X.w X.K X.mg X.base CX0 g' h k f fd ps sp) (c : Cxt X g h k p) (hgl : g' = true → g = true) (hb : Binds X.K fd ps []) : OpR X (compareOp .NotIn) (rInO true C sp) := by
  intro pins s σ H x y v u Q I rx ry hh
  obtain ⟨a, dx, fs, rfl, ea, q⟩ := hh
  obtain rfl : u = Value.ref a := ry
  obtain ⟨ox, od, J⟩ := inst_of I ea
  obtain ⟨mf, Fm⟩ := I.fr
  refine PySem.W.notIn_K Fm I.mod.kin J m.at_ m.fn ?_
  refine thn (run_fnX (E := fun _ => E0) F c hgl hb at0 I (.cons (rrf _) (.cons rx .nil)) q) fun w s' ⟨z, H', I', rz, b, e, q'⟩ => ?_
  subst e
  cases rz
  exact wpAny_truthy_bool ⟨.bl (!b), H', I', rfl, q'⟩
/-- len(o) -/
def rLenO (C : Addr) (sp : Sp) : List V → Hp → VK → Prop := fun xs H Q => ∃ a dx fs, xs = [.ref a] ∧ H a = some (.ins C dx fs) ∧ sp [.ref a] H (fun v H' => ∃ n : Nat, v = .int n ∧ n < 2 ^ 63 ∧ Q (.int n) H') E0
theorem call_lenO (m : SMeth X.K C "__len__" f) (F : FnX X.prog X.w X.K X.mg X.base CX0 g' h k f fd ps sp) (c : Cxt X g h (k + 1) p) (hgl : g' = true → g = true) (hb : Binds X.K fd ps []) : CallR X (.builtin "len") (rLenO C sp) := by
  intro pins s σ H xs us Q I r hh
  obtain ⟨a, dx, fs, rfl, ea, q⟩ := hh
  obtain ⟨u, rfl, r1⟩ := vals1 r
  obtain rfl : u = Value.ref a := r1
  obtain ⟨ox, od, J⟩ := inst_of I ea
  obtain ⟨mf, Fm⟩ := I.fr
  refine PySem.W.len_K Fm I.mod.kin J m.at_ m.fn ?_
  refine thn (run_in1 F c hgl hb I (.cons (rrf _) .nil) q) fun w s' ⟨z, H', I', rz, n, e, hn, q'⟩ => ?_
  subst e
  obtain ⟨t, rfl⟩ := rz
  exact ⟨⟨by omega, by omega⟩, ⟨.int n, H', I'.tok _, ⟨_, rfl⟩, q'⟩⟩
/-- bool(o) -/
def rBoolO (C : Addr) (sp : Sp) : List V → Hp → VK → Prop := fun xs H Q => ∃ a dx fs, xs = [.ref a] ∧ H a = some (.ins C dx fs) ∧ sp [.ref a] H (fun v H' => ∃ b, v = .bl b ∧ Q (.bl b) H') E0
theorem call_boolO (m : SMeth X.K C "__bool__" f) (F : FnX X.prog X.w X.K X.mg X.base CX0 g' h k f fd ps sp) (c : Cxt X g h (k + 2) p) (hgl : g' = true → g = true) (hb : Binds X.K fd ps []) : CallR X (.type "bool") (rBoolO C sp) := by
  intro pins s σ H xs us Q I r hh
  obtain ⟨a, dx, fs, rfl, ea, q⟩ := hh
  obtain ⟨u, rfl, r1⟩ := vals1 r
  obtain rfl : u = Value.ref a := r1
  obtain ⟨ox, od, J⟩ := inst_of I ea
  obtain ⟨mf, Fm⟩ := I.fr
  refine PySem.W.call_bool_tru (PySem.W.truthy_K Fm I.mod.kin J m.at_ m.fn ?_)
  refine thn (run_in2 F c hgl hb I (.cons (rrf _) .nil) q) fun w s' ⟨z, H', I', rz, b, e, q'⟩ => ?_
  subst e
  cases rz
  exact ⟨.bl b, H', I', rfl, q'⟩
/-- o != v, by o's own __eq__; both instances of C -/
def rNeO (C : Addr) (sp : Sp) : R2 := fun x y H Q => ∃ a dx fs b dy gs, x = .ref a ∧ y = .ref b ∧ H a = some (.ins C dx fs) ∧ H b = some (.ins C dy gs) ∧ sp [x, y] H (fun v H' => ∃ k, v = .bl k ∧ Q (.bl (!k)) H') E0
theorem op_neO (m : SMeth X.K C "__eq__" f) (hne : PySem.W.findIn X.K (.ref C) "__ne__" = some (some (.builtin "object.__ne__"))) (hob : PySem.W.mroIn X.K C (.type "object") = some true) (F : FnX X.prog X.w X.K X.mg X.base CX0 g' h k f fd ps sp) (c : Cxt X g h (k + 1) p) (hgl : g' = true → g = true) (hb : Binds X.K fd ps []) : OpR X (compareOp .NotEq) (rNeO C sp) := by
  intro pins s σ H x y v u Q I rx ry hh
  obtain ⟨a, dx, fs, b, dy, gs, rfl, rfl, ea, eb, q⟩ := hh
  obtain rfl : v = Value.ref a := rx
  obtain rfl : u = Value.ref b := ry
  obtain ⟨ox, od, J⟩ := inst_of I ea
  obtain ⟨oy, od', J'⟩ := inst_of I eb
  obtain ⟨mf, Fm⟩ := I.fr
  have hu : X.A.units + 1 < cLine := by have := c.rm.units; omega
  refine PySem.W.ne_K hu Fm I.mod.kin J J'.type (by simp [PySem.W.notFirst]) hne hob m.at_ m.fn ?_
  refine thn (run_in1 F c hgl hb I (.cons (rrf _) (.cons (rrf _) .nil)) q) fun w s' ⟨z, H', I', rz, k', e, q'⟩ => ?_
  subst e
  cases rz
  exact ⟨k', rfl, .bl (!k'), H', I', rfl, q'⟩
end
end Spf
end
section
set_option maxHeartbeats 4000000
/-! Own layer 8: methods in both modes, with keywords; a lambda told in a try; a nested def handed on. -/
namespace Spf
open PySem PySem.Spec PyProof.Rows L2 L2H HotX
section
variable {X : Cx} {CX : CXT} {g g' h : Bool} {k : Nat} {f C : Addr} {fd : FuncData} {ps : List Str} {sp : Sp} {E : St → XK} {x m : Str} {q pos apos : Pos} {e o : Expr} {es : List Expr} {ta : TE} {t tk : TA} {p : Addr × Obj}
/-- o.m(e, ..) -/
theorem pe_methX {pl : Sem Bool} (he : PE X o ta) (cl : Cls X.K C) (hm : Meth X.K C m f) (F : FnX X.prog X.w X.K X.mg X.base CX g' h k f fd ps sp) (c : Cxt X g h k p) (hgl : g' = true → g = true) (hb : Binds X.K fd ps []) (hx : ∀ σ, PassesAt CX X σ (E σ)) (ha : PA X (e :: es) t)
    (hst : starEach (e :: es) X.env = (false, eval e X.env) :: starEach es X.env := by rfl) (hpl : (backTo pos (starEach es X.env)).any (·.1) = false := by rfl)
    (ht : eval (.Call (.Attribute o m apos) (e :: es) [] pos) X.env = (do
      let ov ← eval o X.env
      standAt apos.atName
      let (f, first) ← holding [ov] (getMethod ov m pl)
      callWith pos f first (backTo pos (starEach (e :: es) X.env)) (backToKw pos (keywordEach [] X.env))) := by rfl) :
    PE X (.Call (.Attribute o m apos) (e :: es) [] pos) (tMethH C m sp E ta t) := by
  refine ⟨fun pins s σ H Q I hh => ?_⟩
  refine PySem.W.methodCall_KW (pl := pl) (thn (he.run pins s σ H _ I hh) fun u s1 ⟨x, H1, I1, rx, a, dx, fs, ex, ea, l, hq⟩ => ?_) ht
  subst ex
  obtain rfl : u = Value.ref a := rx
  refine getmeth_ok I1 ea cl hm l ?_
  refine PySem.W.callWith_K (first := [.ref a]) (h₀ := X.base) I.ok.mod.kin hm.kp (thn (ha.run pos pins s1 σ H1 _ I1 hq) fun us s2 ⟨vs, H2, I2, r, q2⟩ => ⟨I2.kIn, ?_⟩) hst hpl
  exact run_fnX (us := .ref a :: us) (vs := .ref a :: vs) F c hgl hb (hx σ) I2 (.cons (rrf _) r) q2
/-- o.m() -/
theorem pe_meth0X {pl : Sem Bool} (he : PE X o ta) (cl : Cls X.K C) (hm : Meth X.K C m f) (F : FnX X.prog X.w X.K X.mg X.base CX g' h k f fd ps sp) (c : Cxt X g h k p) (hgl : g' = true → g = true) (hb : Binds X.K fd ps []) (hx : ∀ σ, PassesAt CX X σ (E σ))
    (ht : eval (.Call (.Attribute o m apos) [] [] pos) X.env = (do
      let ov ← eval o X.env
      standAt apos.atName
      let (f, first) ← holding [ov] (getMethod ov m pl)
      callWith pos f first (backTo pos (starEach [] X.env)) (backToKw pos (keywordEach [] X.env))) := by rfl) :
    PE X (.Call (.Attribute o m apos) [] [] pos) (tMethH C m sp E ta tNil) := by
  refine ⟨fun pins s σ H Q I hh => ?_⟩
  refine PySem.W.methodCall_KW (pl := pl) (thn (he.run pins s σ H _ I hh) fun u s1 ⟨x, H1, I1, rx, a, dx, fs, ex, ea, l, hq⟩ => ?_) ht
  subst ex
  obtain rfl : u = Value.ref a := rx
  refine getmeth_ok I1 ea cl hm l ?_
  exact PySem.W.callWith_K0 (first := [.ref a]) I1.kIn hm.kp (run_fnX (us := [.ref a]) (vs := [.ref a]) F c hgl hb (hx σ) I1 (.cons (rrf _) .nil) hq)
/-- how one keyword behind the object binds -/
def KBind1 (K : PySem.W.Frag) (fd : FuncData) (ps : List Str) (kn : Str) : Prop := ∀ (s : Shared) (u v : Value), K.In s.heap → BindsTo s fd ⟨[u], [(kn, v)]⟩ (ps.zip [u, v])
/-- o.m(kn=e) -/
def tMethK (C : Addr) (m : Str) (sp : Sp) (E : St → XK) (ta te : TE) : TE := fun σ H Q => ta σ H fun x H1 => ∃ a dx fs, x = .ref a ∧ H1 a = some (.ins C dx fs) ∧ fs.lookup m = none ∧ tCons te tNil σ H1 fun vs H2 => ∃ z, vs = [z] ∧ sp [x, z] H2 Q (E σ)
theorem pe_methKX {pl : Sem Bool} {kn : Str} {kpos : Pos} {te : TE} (he : PE X o ta) (cl : Cls X.K C) (hm : Meth X.K C m f) (F : FnX X.prog X.w X.K X.mg X.base CX g' h k f fd ps sp) (c : Cxt X g h k p) (hgl : g' = true → g = true) (hb : KBind1 X.K fd ps kn) (hx : ∀ σ, PassesAt CX X σ (E σ)) (ha : PE X e te)
    (hall : (backToKw pos (keywordEach [⟨some kn, e, kpos⟩] X.env)).all (·.1.isSome) = true := by rfl) (hks : (backToKw pos (keywordEach [⟨some kn, e, kpos⟩] X.env)).filterMap (·.1) = [kn] := by rfl)
    (hpl : ((backTo pos (starEach [] X.env)).any (·.1) || (backToKw pos (keywordEach [⟨some kn, e, kpos⟩] X.env)).any (·.1.isNone)) = false := by rfl)
    (ht : eval (.Call (.Attribute o m apos) [] [⟨some kn, e, kpos⟩] pos) X.env = (do
      let ov ← eval o X.env
      standAt apos.atName
      let (f, first) ← holding [ov] (getMethod ov m pl)
      callWith pos f first (backTo pos (starEach [] X.env)) (backToKw pos (keywordEach [⟨some kn, e, kpos⟩] X.env))) := by rfl) :
    PE X (.Call (.Attribute o m apos) [] [⟨some kn, e, kpos⟩] pos) (tMethK C m sp E ta te) := by
  refine ⟨fun pins s σ H Q I hh => ?_⟩
  refine PySem.W.methodCall_KW (pl := pl) (thn (he.run pins s σ H _ I hh) fun u s1 ⟨x, H1, I1, rx, a, dx, fs, ex, ea, l, hq⟩ => ?_) ht
  subst ex
  obtain rfl : u = Value.ref a := rx
  refine getmeth_ok I1 ea cl hm l ?_
  have hkw : PK X [⟨some kn, e, kpos⟩] (tCons te tNil) := pk_cons ha pk_nil
  refine PySem.W.callWith_KW0 (first := [.ref a]) (h₀ := X.base) I.ok.mod.kin hm.kp hall (thn (hkw.run pos pins s1 σ H1 _ I1 hq) fun ws s2 ⟨zs, H2, I2, rz, q2⟩ => ⟨I2.kIn, ?_⟩) hpl
  rw [hks, List.append_nil]
  obtain ⟨z, ez, q2⟩ := q2
  subst ez
  have P0 : L2.PassesAt CX X σ (E σ) := hx σ
  obtain ⟨w', rfl, rv⟩ := vals1 rz
  refine wpAny_call (codeAny_mono (F.run X.A X.stack s2 H2 ⟨[.ref a], [(kn, w')]⟩ [.ref a, w'] [.ref a, z] Q (E σ) p (c.rm.less hgl) (fun z => pinok I2 (c.pin z)) I2.env0 (hb s2 _ _ I2.kIn) (.cons (rrf _) (.cons rv .nil)) q2) fun r s' hq => ?_)
  cases r with
  | error e => exact P0 pins H2 s2 e s' I2 hq
  | ok fl =>
    cases fl with
    | ret u => exact I2.after hq
    | next => exact False.elim hq
    | brk => exact False.elim hq
    | cont => exact False.elim hq
/-- C() -/
theorem pe_make0X {q : Pos} (M : Mk X.K C f) (F : FnX X.prog X.w X.K X.mg X.base CX0 g' h k f fd ps sp) (c : Cxt X g h (k + 1) p) (hgl : g' = true → g = true) (hg : Gl X x) (hm : X.mg x = some (.ref C)) (hb : Binds X.K fd ps [])
    (hdb : (x == ("__debug__" : Str)) = false := by decide) : PE X (.Call (.Name x q) [] [] pos) (tMake C sp [] E0 tNil) := by
  refine ⟨fun pins s σ H Q I hh => ?_⟩
  refine wpAny_Call_Name_kw (ld_glob I hg hm ?_ hdb)
  refine PySem.W.callWith_K0 I.kIn M.kp ?_
  have hq := hh (s.heap.objs.size + 1) s.heap.objs.size (I.hok.fresh (Nat.le_succ _)) (I.hok.fresh (Nat.le_refl _)) (Nat.ne_of_lt (Nat.lt_succ_self _))
  have I2 := Inv.made (C := C) I
  have r2 : Vals [V.ref (s.heap.objs.size + 1)] [Value.ref (s.heap.objs.size + 1)] := .cons (rrf _) .nil
  have hl : ([Value.ref (s.heap.objs.size + 1)] ++ []).length = ps.length := by
    rw [← F.len _ _ _ _ hq]
    rfl
  have b := hb _ [Value.ref (s.heap.objs.size + 1)] I2.kIn hl
  refine wpAny_call (make_map (f := f) I.kIn M.makes M.init (beq_iff_eq.mp M.fn) (codeAny_mono (F.run _ X.stack _ _ ⟨[Value.ref (s.heap.objs.size + 1)], []⟩ [Value.ref (s.heap.objs.size + 1)] _ _ E0 p ((c.rm.make C [] []).less hgl)
    (fun z => pinok I2 (c.pin z)) (I2.env0.make C [] []) b r2 hq) fun r s' hq' => ?_))
  cases r with
  | error e => exact hq'.elim
  | ok fl =>
    cases fl with
    | ret u =>
      obtain ⟨v, H', I3, rv, ev, q3⟩ := I2.after hq'
      subst ev
      exact ⟨rv, ⟨V.ref (s.heap.objs.size + 1), H', I3, rrf _, q3⟩⟩
    | next => exact False.elim hq'
    | brk => exact False.elim hq'
    | cont => exact False.elim hq'
end

/-! ### a lambda without parameters, called by the def that gets it; its exceptions are told with their context -/
section
open LamX
/-- LamX.lamCx, an exception told by L2N -/
def lamCxN (X : Cx) (A : Around) (outer : List Env) (s : Shared) (H : Hp) (E : XK) (scope : Scope) (f c' : Addr) : Cx :=
  { lamCx X A outer s H E scope f c' with xe := fun e s' => wpAny (model X.prog X.w) (A.deeper (lamEnv X scope s.heap.objs.size f c')) (leaving (lamEnv X scope s.heap.objs.size f c') e) (fun _ s'' => L2N.CX X.prog X.w outer H s E e s'') (fun e' s'' => L2N.CX X.prog X.w outer H s E e' s'') s' }
variable {X : Cx} {pins : List (Addr × Obj)} {σ : L2.St} {H HZ : Hp} {s s1 : Shared}
theorem lamN_takes {A : Around} {outer : List Env} {E : XK} {scope : Scope} {f c' : Addr} : L2N.Takes (lamCxN X A outer s H E scope f c') (fun cls d _ H => E cls d H) := L2N.takes_of rfl rfl rfl rfl
theorem pe_actN {CXg : CXT} {Eg : XK} {gg : Bool} {p0 : Addr × Obj} {Ng : List Str} {qg : Str} {sg : Scope} {g f c' : Addr} {cdg pm ctv : Value} {params : Arguments} {body : Expr} {scope : Scope} {k i : Nat} {a : Str} {pn : List (Addr × Obj)} {xe : Value → Shared → Prop} {W : WX} {E : XK} {tb : TE} {p1 p2 : Pos}
    (I : Inv X pins σ H s) (L : LamS X.env.scope scope) (hf : s.heap.get? f = some (PySem.W.kla_obj "<lambda>" (X.env.qual ++ "<lambda>") params body scope (cloFrom X.env.cells scope.names []) pm c' ctv)) (hfn : H f = none) (hfr : f ∉ frs X.stack)
    (hbind : bindArgs (PySem.W.kla_fn "<lambda>" (X.env.qual ++ "<lambda>") params body scope (cloFrom X.env.cells scope.names []) pm (.ref c') ctv) ⟨[], []⟩ = pure [])
    (tk : L2N.Takes ((cxX CXg X.prog X.w X.K X.mg X.base Ng qg sg g cdg X.A X.stack s H Eg false p0).tr pn xe) W) (hW : ∀ cls d σ' H', E cls d H' → W cls d σ' H') (hr : RmX gg false (k + 1) (X.A.deeper (envOfC qg sg s.heap.objs.size g cdg)) p0)
    (hbody : ∀ (A : Around) (outer : List Env) (s : Shared) (H : Hp), Cxt (lamCxN X A outer s H E scope f c') gg false k p0 → PE (lamCxN X A outer s H E scope f c') body tb)
    (hN : Ng[i]? = some a) (hv : Vis sg a) (hd : (a == ("__debug__" : Str)) = false := by decide) (hcd : (a == ("__classdict__" : Str)) = false := by decide) :
    PE ((cxX CXg X.prog X.w X.K X.mg X.base Ng qg sg g cdg X.A X.stack s H Eg false p0).tr pn xe) (.Call (.Name a p1) [] [] p2)
      (fun σZ HZ Q => σZ[i]? = some (some (.ref f)) ∧ HZ c' = some (CodeO c' (X.env.qual ++ "<lambda>")) ∧ tb σ HZ Q) := by
  refine ⟨fun pinsZ sZ σZ HZ Q IZ h => ?_⟩
  obtain ⟨hs, hc, ht⟩ := h
  refine wpAny_Call_Name_kw (thn ((pe_var (pos := p1) (i := i) hN hv hd hcd).run pinsZ sZ σZ HZ (fun v H1 => v = .ref f ∧ H1 = HZ) IZ ⟨.ref f, hs, rfl, rfl⟩) fun u s1 ⟨v, H1, I1, r1, q1⟩ => ?_)
  obtain ⟨ev, eH⟩ := q1
  subst ev
  rw [eH] at I1
  obtain rfl : u = Value.ref f := r1
  have of1 : s1.heap.get? f = some (PySem.W.kla_obj "<lambda>" (X.env.qual ++ "<lambda>") params body scope (cloFrom X.env.cells scope.names []) pm c' ctv) := I1.base.keep f _ hf hfn hfr (fun z => nomatch (show f ∈ ([] : List Addr) from z))
  refine PySem.W.callWith_F0 ⟨_, _, _, _, of1⟩ ?_
  have un : Un (frs X.stack) [] H HZ s.heap s1.heap := I1.base
  obtain ⟨⟨oc, vs, t, hoc, hdc, hvc⟩, _, _⟩ := I1.hok c' _ hc
  have rc : codeAny (model X.prog X.w) (X.A.deeper (envOfC qg sg s.heap.objs.size g cdg)) (.call (.ref f) ⟨[], []⟩) (CR (L2N.CX X.prog X.w) (envOfC qg sg s.heap.objs.size g cdg :: X.stack) X.prog X.w HZ s1 Q E) s1 := by
    refine PySem.W.kla_callFunE hr.room.depth of1 rfl L.co L.gen rfl ⟨c', oc, vs, t, rfl, hoc, hdc, hvc⟩ ?_
    rw [hbind]
    refine wpAny_pure (wpAny_newFunctionEnv (fun y hy => (L.own y hy).2) (fun y hy => absurd hy (by simp)) (fun h₁ hns hsb => ⟨I1.nolimit.fresh _ hsb, ?_⟩) L.kind)
    show codeAny _ _ (.expr body (lamEnv X scope s1.heap.objs.size f c')) _ _
    have kp : ∀ b o, s1.heap.get? b = some o → h₁.get? b = some o := fun b o e => hsb.extBut b o (Nat.ne_of_lt (Heap.lt_size e)) (Heap.get?_push_of_some _ e)
    have J0 : Inv (lamCx X (X.A.deeper (envOfC qg sg s.heap.objs.size g cdg)) (envOfC qg sg s.heap.objs.size g cdg :: X.stack) s1 HZ E scope f c') [] σ HZ { s1 with heap := h₁, toks := s1.toks + ([] : List (Str × Value)).length } :=
      lam_start2 I L I1.env0 (hr.calm rfl) un hns kp
    have J : Inv (lamCxN X (X.A.deeper (envOfC qg sg s.heap.objs.size g cdg)) (envOfC qg sg s.heap.objs.size g cdg :: X.stack) s1 HZ E scope f c') [] σ HZ { s1 with heap := h₁, toks := s1.toks + ([] : List (Str × Value)).length } := J0.wish _
    have ct : Cxt (lamCxN X (X.A.deeper (envOfC qg sg s.heap.objs.size g cdg)) (envOfC qg sg s.heap.objs.size g cdg :: X.stack) s1 HZ E scope f c') gg false k p0 := ⟨hr.deeper _, rfl, fun z => Bool.noConfusion z⟩
    refine PySem.W.kla_codeExpr (wpAny_mono ((hbody _ _ s1 HZ ct).run [] _ _ HZ Q J ht) (fun v s' hq => ?_) fun e s' hq => hq)
    obtain ⟨w', H', J', rv, q⟩ := hq
    exact ⟨w', H', J'.os, J'.bare, J'.base, J'.hok, rv, q⟩
  refine wpAny_call (codeAny_mono rc fun r s' hq => ?_)
  cases r with
  | error e => exact L2N.passes_call tk hW pinsZ σZ HZ s1 e s' I1 hq
  | ok fl =>
    cases fl with
    | ret u => exact I1.after hq
    | next => exact False.elim hq
    | brk => exact False.elim hq
    | cont => exact False.elim hq
/-- the def that calls what it got: a calls it; TT: what it makes of the lambda's reading -/
def GivesX (X : Cx) (gg : Bool) (k : Nat) (p0 : Addr × Obj) (Ng : List Str) (x : Str) (st : Stmt) (g : Addr) (cdg : Value) (a : Str) (q : Str) (TT : (XK → Hp → VK → Prop) → Hp → VK → Prop) : Prop :=
  ∀ (f c' : Addr) (s : Shared) (H : Hp) (Q : VK) (tl : XK → Hp → VK → Prop),
    (∀ (W : WX) (pn : List (Addr × Obj)) (xe : Value → Shared → Prop) (E : XK) (p1 p2 : Pos), L2N.Takes ((cxX CX0 X.prog X.w X.K X.mg X.base Ng x (defScope st) g cdg X.A X.stack s H E0 false p0).tr pn xe) W → (∀ cls d σ' H', E cls d H' → W cls d σ' H') →
      PE ((cxX CX0 X.prog X.w X.K X.mg X.base Ng x (defScope st) g cdg X.A X.stack s H E0 false p0).tr pn xe) (.Call (.Name a p1) [] [] p2) (fun σZ HZ Q => σZ[0]? = some (some (.ref f)) ∧ HZ c' = some (CodeO c' q) ∧ tl E HZ Q)) →
    H c' = some (CodeO c' q) → TT tl H Q → Cxt (cxX CX0 X.prog X.w X.K X.mg X.base Ng x (defScope st) g cdg X.A X.stack s H E0 false p0) gg false k p0 →
    ∃ t, PSs (cxX CX0 X.prog X.w X.K X.mg X.base Ng x (defScope st) g cdg X.A X.stack s H E0 false p0) (defBody st) t ∧ t { nx := fun _ H' => Q .non H', rt := Q } (L2.start Ng [.ref f]) H
/-- x(lambda: body) -/
theorem pe_lamX {T : List (Addr × Str)} {TT : (XK → Hp → VK → Prop) → Hp → VK → Prop} {x a : Str} {st : Stmt} {g c P : Addr} {fd : FuncData} {k : Nat} {gg gx : Bool} {p0 : Addr × Obj} {Ng : List Str}
    {params : Arguments} {body : Expr} {scope : Scope} {t : XK → TE} {p lpos pos : Pos} (hg : Gl X x) (hm : X.mg x = some (.ref g)) (Fg : Fun X.K x x st g fd) (hb : L2.Binds X.K fd [a] []) (Sg : FnScope Ng [a] (defScope st)) (hNg : Ng[0]? = some a) (hva : Vis (defScope st) a)
    (hG : ∀ cdg, GivesX X gg k.succ p0 Ng x st g cdg a (X.env.qual ++ "<lambda>") TT) (ct : Cxt X gx false (k + 2) p0) (hgl : gg = true → gx = true)
    (TB : TabB X.base X.mg c P) (hcode : X.env.code = .ref c) (hmT : (P, X.env.qual ++ "<lambda>") ∈ T) (hu : ∀ p ∈ T, p.1 = P → p.2 = X.env.qual ++ "<lambda>") (L : LamS X.env.scope scope) (hdef : defaultsOf params X.env = ([], []))
    (hbind : ∀ (q : Str) (cl : List (Str × Addr)) (pm cv ctv : Value), bindArgs (PySem.W.kla_fn "<lambda>" q params body scope cl pm cv ctv) ⟨[], []⟩ = pure [])
    (hbody : ∀ (A : Around) (outer : List Env) (s : Shared) (H : Hp) (E : XK) (f c' : Addr), Cxt (lamCxN X A outer s H E scope f c') gg false k p0 → PE (lamCxN X A outer s H E scope f c') body (t E))
    (hdb : (x == ("__debug__" : Str)) = false := by decide) (hd : (a == ("__debug__" : Str)) = false := by decide) (hcd : (a == ("__classdict__" : Str)) = false := by decide) :
    PE X (.Call (.Name x p) [.Lambda params body scope lpos] [] pos) (tLam T TT t) := by
  refine ⟨fun pins s σ H Q I h => ?_⟩
  obtain ⟨hT, h⟩ := h
  refine wpAny_Call_Name_kw (ld_glob I hg hm ?_ hdb)
  refine PySem.W.callWith_K (h₀ := X.base) I.ok.mod.kin Fg.kp ?_ (by rfl) (by rfl)
  show wpAny _ _ (spliced ((false, eval (.Lambda params body scope lpos) X.env) :: backTo pos (starEach [] X.env))) _ _ s
  refine Calls.spliced_cons (lam_make2 I TB hcode hmT hu hT hdef (L.has I.ok) fun f c' pm' ctv H1 s' I1 eN T1 hf hfn hfr hco => ?_)
  refine Calls.spliced_nil ⟨I1.kIn, ?_⟩
  have hb1 := hb s' [.ref f] I1.kIn rfl
  obtain ⟨oc, od, kV, doc, pm, an, cdv, ct', osl, rfl, lk, hcg⟩ := Fg.ex
  have rc : codeAny (model X.prog X.w) X.A (.call (.ref g) ⟨[.ref f], []⟩) (CR CX0 X.stack X.prog X.w H1 s' Q E0) s' := by
    refine run_ofX (h := false) (N := Ng) (ps := [a]) (us := [.ref f]) (vs := [.ref f]) lk hcg Sg (ct.rm.less hgl) (fun z => Bool.noConfusion z) I1.env0 hb1 (.cons (rrf _) .nil) rfl fun c2 => ?_
    exact hG cdv f c' s' H1 Q (fun E H' Q' => t E σ H' Q') (fun W pn xe E p1 p2 tk hW => pe_actN (i := 0) I1 L hf hfn hfr (hbind _ _ _ _ _) tk hW c2.rm (fun A outer s H c3 => hbody A outer s H E f c' c3) hNg hva hd hcd) hco (h H1 eN T1) c2
  refine wpAny_call (codeAny_mono rc fun r s2 hq => ?_)
  cases r with
  | error e => exact (show False from hq).elim
  | ok fl =>
    cases fl with
    | ret u => exact I1.after hq
    | next => exact False.elim hq
    | brk => exact False.elim hq
    | cont => exact False.elim hq
end
end Spf
end
section
set_option maxHeartbeats 4000000
/-! Own layer 9: a nested def handed to a method that calls it. -/
namespace Spf
open PySem PySem.Spec PyProof.Rows L2 L2H HotX LamX NdefX
/-- a nested def runs, at one state -/
theorem run_nX {CX : CXT} {P : Program} {w : World} {K : PySem.W.Frag} {mg : Str → Option Value} {base : Heap} {N ps fr : List Str} {F : NF} {f : Addr} {k : Nat} {gg : Bool} {A : Around} {outer : List Env} {s : Shared} {H : Hp} {us : List Value} {vs : List V} {ws : List (Option V)} {Q : VK} {E : XK} {p : Addr × Obj}
    (S : NScope N ps fr F.scope) (hb : ∀ (doc pm ctv : Value) (us : List Value), us.length = ps.length → bindArgs (F.fd doc pm ctv) ⟨us, []⟩ = pure (ps.zip us)) (hr : RmX gg false (k + 1) A p) (e0 : Env0 P w K mg base A outer s H) (hf : H f = some (FnO f F)) (hc : H F.c = some (CodeO F.c F.qual))
    (C : CellsAt F.cl fr ws s.heap H) (r : Vals vs us) (hl : vs.length = ps.length)
    (hbody : Cxt (ncx CX P w K mg base N F f A outer s H E) gg false k p → ∃ t, PSs (ncx CX P w K mg base N F f A outer s H E) F.body t ∧ t { nx := fun _ H' => Q .non H', rt := Q } (startF N vs ws) H) :
    codeAny (model P w) A (.call (.ref f) ⟨us, []⟩) (CR CX outer P w H s Q E) s := by
  have lim : s.heap.NoLimit := e0.mod.nolimit.keeps fun b o e => (e0.bs b o e).1
  obtain ⟨od, sl, doc, pm, ctv, ho⟩ := fnO_at e0.hok hf
  refine codeAny_call_function hr.room.depth ho rfl S.co S.gen rfl (codeO_at e0.hok hc) ?_
  rw [hb doc pm ctv us (by rw [← r.length]; exact hl)]
  refine wpAny_pure (wpAny_newFunctionEnv S.nocell (fun ⟨n, _⟩ hy => S.par n (List.of_mem_zip hy).1) (fun h₁ hns hsb => ⟨lim.fresh _ hsb, ?_⟩) S.kind)
  show codeAny _ _ (.func F.body (envF F f s.heap.objs.size)) _ _
  refine codeAny_func ?_
  have kp : ∀ b o, s.heap.get? b = some o → h₁.get? b = some o := fun b o e => hsb.extBut b o (Nat.ne_of_lt (Heap.lt_size e)) (Heap.get?_push_of_some _ e)
  have ct : Cxt (ncx CX P w K mg base N F f A outer s H E) gg false k p := ⟨hr.deeper _, rfl, fun z => Bool.noConfusion z⟩
  obtain ⟨t, ht, hq⟩ := hbody ct
  have I : Inv (ncx CX P w K mg base N F f A outer s H E) [] (startF N vs ws) H { s with heap := h₁, toks := s.toks + (ps.zip us).length } := inv_startN S (hr.calm rfl) e0 hl r C hns kp
  refine wpAny_mono (ht.run [] _ (startF N vs ws) H _ I hq) (fun fl s' hs => ?_) fun e s' hs => hs
  have fin : ∀ {σ' : L2.St} {H' : Hp} {v : V} {u : Value}, Inv (ncx CX P w K mg base N F f A outer s H E) [] σ' H' s' → L2.RelV v u → Q v H' → CE outer P w H s Q u s' :=
    fun {σ' H' v u} J rv q => ⟨v, H', J.os, J.bare, J.base, J.hok, rv, q⟩
  cases fl with
  | ret u =>
    obtain ⟨v, σ', H', J, rv, q⟩ := hs
    exact fin J rv q
  | next =>
    obtain ⟨σ', H', J, q⟩ := hs
    exact fin (v := V.non) (u := Value.none) J rfl q
  | brk =>
    obtain ⟨_, _, _, q⟩ := hs
    exact False.elim q
  | cont =>
    obtain ⟨_, _, _, q⟩ := hs
    exact False.elim q
/-- the promise of the function F at f, its cells holding ws; it may raise -/
structure NOkX (P : Program) (w : World) (K : PySem.W.Frag) (mg : Str → Option Value) (base : Heap) (gg : Bool) (k : Nat) (f : Addr) (F : NF) (fr : List Str) (ws : List (Option V)) (sp : Sp) (p : Addr × Obj) : Prop where
  run : ∀ (A : Around) (outer : List Env) (s : Shared) (H : Hp) (us : List Value) (vs : List V) (Q : VK) (E : XK), RmX gg false k A p → Env0 P w K mg base A outer s H → H f = some (FnO f F) → H F.c = some (CodeO F.c F.qual) →
    CellsAt F.cl fr ws s.heap H → Vals vs us → sp vs H Q E → codeAny (model P w) A (.call (.ref f) ⟨us, []⟩) (CR (L2N.CX P w) outer P w H s Q E) s
section
variable {X : Cx} {pins : List (Addr × Obj)} {σ : L2.St} {H : Hp} {s : Shared} {cl : List (Str × Addr)} {fr : List Str} {ws : List (Option V)}
/-- what the cells held when the running frame began they hold still -/
theorem cells_later (C : CellsAt cl fr ws X.s_0.heap X.H_0) (hx : X.ex = []) (I : Inv X pins σ H s) : CellsAt cl fr ws s.heap H := by
  have nx : ∀ c, c ∉ X.ex := fun c z => by rw [hx] at z; cases z
  have kp : ∀ y c, cl.lookup y = some c → ∀ v, X.s_0.heap.IsCell c v → s.heap.IsCell c v := fun y c e v ⟨o, ho, hd⟩ => by
    obtain ⟨sl, q⟩ := I.base.any ho (C.all y c e).1 (nx c)
    exact ⟨_, q, hd⟩
  refine ⟨C.len, fun y c e => ?_, C.inj, fun i y e => ?_⟩
  · obtain ⟨n, v, z⟩ := C.all y c e
    refine ⟨?_, v, kp y c e v z⟩
    obtain ⟨o, ho, _⟩ := z
    exact I.base.free c o ho n (nx c)
  · obtain ⟨c, hc, hv⟩ := C.has i y e
    refine ⟨c, hc, fun v ev => ?_⟩
    obtain ⟨u, r, z⟩ := hv v ev
    exact ⟨u, r, kp y c hc _ z⟩
end
/-- a(e, ..), a a local that holds the function F at f; its cells as they stood at the entry -/
def tActF (f : Addr) (F : NF) (i : Nat) (sp : Sp) (E : XK) (t : TA) : TE := fun σ H Q => σ[i]? = some (some (.ref f)) ∧ H f = some (FnO f F) ∧ t σ H fun vs H1 => H1 f = some (FnO f F) ∧ H1 F.c = some (CodeO F.c F.qual) ∧ sp vs H1 Q E
theorem pe_actF {X : Cx} {gg gx : Bool} {k i : Nat} {p : Addr × Obj} {f : Addr} {F : NF} {fr : List Str} {ws : List (Option V)} {sp : Sp} {E : XK} {W : WX} {a : Str} {p1 p2 : Pos} {e : Expr} {es : List Expr} {t : TA} (Fn : NOkX X.prog X.w X.K X.mg X.base gg k f F fr ws sp p) (c : Cxt X gx false k p) (hgl : gg = true → gx = true)
    (C : CellsAt F.cl fr ws X.s_0.heap X.H_0) (hx : X.ex = []) (tk : L2N.Takes X W) (hW : ∀ cls d σ' H', E cls d H' → W cls d σ' H') (hN : X.N[i]? = some a) (hv : Vis X.env.scope a) (ha : PA X (e :: es) t)
    (hd : (a == ("__debug__" : Str)) = false := by decide) (hcd : (a == ("__classdict__" : Str)) = false := by decide)
    (he : starEach (e :: es) X.env = (false, eval e X.env) :: starEach es X.env := by rfl) (hpl : (backTo p2 (starEach es X.env)).any (·.1) = false := by rfl) :
    PE X (.Call (.Name a p1) (e :: es) [] p2) (tActF f F i sp E t) := by
  refine ⟨fun pins s σ H Q I h => ?_⟩
  obtain ⟨hs, hf, ht⟩ := h
  refine wpAny_Call_Name_kw (thn ((pe_var (pos := p1) hN hv hd hcd).run pins s σ H (fun v H1 => v = .ref f ∧ H1 = H) I ⟨.ref f, hs, rfl, rfl⟩) fun u s1 ⟨v, H1, I1, r1, q1⟩ => ?_)
  obtain ⟨ev, eH⟩ := q1
  subst ev
  rw [eH] at I1
  obtain rfl : u = Value.ref f := r1
  refine PySem.W.callWith_F (first := []) (fnAt_of I1 hf) (thn (ha.run p2 pins s1 σ H _ I1 ht) fun us s2 ⟨vs, H2, I2, r, h1, h2, q⟩ => ⟨fnAt_of I2 h1, ?_⟩) he hpl
  show wpAny _ _ (call (.ref f) us) _ _ _
  refine wpAny_call (codeAny_mono (Fn.run X.A X.stack s2 H2 us vs Q E (c.rm.less hgl) I2.env0 h1 h2 (cells_later C hx I2) r q) fun r s' hq => ?_)
  cases r with
  | error e => exact L2N.passes_call tk hW pins σ H2 s2 e s' I2 hq
  | ok fl =>
    cases fl with
    | ret u => exact I2.after hq
    | next => exact False.elim hq
    | brk => exact False.elim hq
    | cont => exact False.elim hq
/-- a method that is told of the function it gets: what it makes of the function's promise -/
def GivesF (X : Cx) (gg : Bool) (k : Nat) (p0 : Addr × Obj) (x q : Str) (st : Stmt) (g : Addr) (ps Ng : List Str) (fr : List Str) (TF : Addr → NF → Sp → V → Hp → VK → XK → Prop) : Prop :=
  ∀ (cdg : Value) (f : Addr) (F : NF) (ws : List (Option V)) (s : Shared) (H : Hp) (Q : VK) (E : XK) (o : V) (sp : Sp), NOkX X.prog X.w X.K X.mg X.base gg k f F fr ws sp p0 → H f = some (FnO f F) → H F.c = some (CodeO F.c F.qual) → CellsAt F.cl fr ws s.heap H → TF f F sp o H Q E →
    Cxt (cxX (L2N.CX X.prog X.w) X.prog X.w X.K X.mg X.base Ng q (defScope st) g cdg X.A X.stack s H E false p0) gg false k p0 →
    ∃ t, PSs (cxX (L2N.CX X.prog X.w) X.prog X.w X.K X.mg X.base Ng q (defScope st) g cdg X.A X.stack s H E false p0) (defBody st) t ∧ t { nx := fun _ H' => Q .non H', rt := Q } (L2.start Ng [o, .ref f]) H
/-- o.m(a), a a name that holds a function made by mk -/
def tMethF (C : Addr) (m : Str) (mk : Addr → NF) (i : Nat) (js : List Nat) (sp : Addr → Addr → List (Option V) → Sp) (TF : Addr → NF → Sp → V → Hp → VK → XK → Prop) (E : St → XK) (ta : TE) : TE := fun σ H Q => ta σ H fun x H1 => ∃ a dx fs, x = .ref a ∧ H1 a = some (.ins C dx fs) ∧ fs.lookup m = none ∧
  ∃ f c', σ[i]? = some (some (.ref f)) ∧ H1 f = some (FnO f (mk c')) ∧ H1 (mk c').c = some (CodeO (mk c').c (mk c').qual) ∧ TF f (mk c') (sp f c' (js.map (slotAt σ))) x H1 Q (E σ)
theorem pe_methF {X : Cx} {gg gx : Bool} {k i : Nat} {p0 : Addr × Obj} {C ft : Addr} {fd : FuncData} {m q : Str} {st : Stmt} {ps Ng fr : List Str} {TF : Addr → NF → Sp → V → Hp → VK → XK → Prop} {mk : Addr → NF} {cl : List (Str × Addr)} {js : List Nat} {sp : Addr → Addr → List (Option V) → Sp} {E : St → XK} {o : Expr} {ta : TE} {a : Str} {p1 apos pos : Pos} {pl : Sem Bool}
    (he : PE X o ta) (clC : Cls X.K C) (hm : Meth X.K C m ft) (Fg : Fun X.K m q st ft fd) (hb : L2.Binds X.K fd ps []) (hps : ps.length = 2) (Sg : FnScope Ng ps (defScope st)) (hG : GivesF X gg k p0 m q st ft ps Ng fr TF) (ct : Cxt X gx false (k + 1) p0) (hgl : gg = true → gx = true)
    (Fn : ∀ f c' ws, NOkX X.prog X.w X.K X.mg X.base gg k f (mk c') fr ws (sp f c' ws) p0) (hcl : ∀ c', (mk c').cl = cl) (cp : X.Ok → Caps X cl fr js) (hx : ∀ σ, PassesAt (L2N.CX X.prog X.w) X σ (E σ)) (hN : X.N[i]? = some a) (hv : Vis X.env.scope a)
    (hd : (a == ("__debug__" : Str)) = false := by decide) (hcd : (a == ("__classdict__" : Str)) = false := by decide)
    (hst : starEach [.Name a p1] X.env = (false, eval (.Name a p1) X.env) :: starEach [] X.env := by rfl) (hpl : (backTo pos (starEach [] X.env)).any (·.1) = false := by rfl)
    (ht : eval (.Call (.Attribute o m apos) [.Name a p1] [] pos) X.env = (do
      let ov ← eval o X.env
      standAt apos.atName
      let (f, first) ← holding [ov] (getMethod ov m pl)
      callWith pos f first (backTo pos (starEach [.Name a p1] X.env)) (backToKw pos (keywordEach [] X.env))) := by rfl) :
    PE X (.Call (.Attribute o m apos) [.Name a p1] [] pos) (tMethF C m mk i js sp TF E ta) := by
  refine ⟨fun pins s σ H Q I hh => ?_⟩
  refine PySem.W.methodCall_KW (pl := pl) (thn (he.run pins s σ H _ I hh) fun u s1 ⟨x, H1, I1, rx, a1, dx, fs, ex, ea, l, f, c', hs, hf, hc, hq⟩ => ?_) ht
  subst ex
  obtain rfl : u = Value.ref a1 := rx
  refine getmeth_ok I1 ea clC hm l ?_
  have hva : PA X [.Name a p1] (tCons (tVar i) tNil) := pa_cons (pe_var hN hv hd hcd) pa_nil hst
  refine PySem.W.callWith_K (first := [.ref a1]) (h₀ := X.base) I.ok.mod.kin hm.kp (thn (hva.run pos pins s1 σ H1 (fun vs H2 => vs = [.ref f] ∧ H2 = H1) I1 ⟨_, hs, rfl, rfl⟩) fun us s2 ⟨vs, H2, I2, r, ev, eH⟩ => ⟨I2.kIn, ?_⟩) hst hpl
  subst ev
  rw [eH] at I2
  obtain ⟨u2, rfl, ru⟩ := vals1 r
  obtain rfl : u2 = Value.ref f := ru
  have C1 : CellsAt (mk c').cl fr (js.map (slotAt σ)) s2.heap H1 := by
    rw [hcl c']
    exact cells_of I2 (cp I2.ok)
  have hb1 := hb s2 [.ref a1, .ref f] I2.kIn (by rw [List.append_nil, hps]; rfl)
  rw [List.append_nil] at hb1
  obtain ⟨oc, od, kV, doc, pm, an, cdv, ct', osl, rfl, lk, hcg⟩ := Fg.ex
  have rc : codeAny (model X.prog X.w) X.A (.call (.ref ft) ⟨[.ref a1, .ref f], []⟩) (CR (L2N.CX X.prog X.w) X.stack X.prog X.w H1 s2 Q (E σ)) s2 := by
    refine run_ofX (h := false) (N := Ng) (ps := ps) (us := [.ref a1, .ref f]) (vs := [.ref a1, .ref f]) lk hcg Sg (ct.rm.less hgl) (fun z => Bool.noConfusion z) I2.env0 hb1 (.cons (rrf _) (.cons (rrf _) .nil)) (by rw [hps]; rfl) fun c2 => ?_
    exact hG cdv f (mk c') _ s2 H1 Q (E σ) (.ref a1) _ (Fn f c' _) hf hc C1 hq c2
  refine wpAny_call (codeAny_mono rc fun r s3 hq => ?_)
  cases r with
  | error e => exact hx σ pins H1 s2 e s3 I2 hq
  | ok fl =>
    cases fl with
    | ret u => exact I2.after hq
    | next => exact False.elim hq
    | brk => exact False.elim hq
    | cont => exact False.elim hq
end Spf
end
section
set_option maxHeartbeats 4000000
/-! Own layer 10: repr of data, dict of a tuple of pairs, enumerate(tuple), zip(list, tuple), min of texts, count of bools, list of a text, d == {}. -/
namespace Spf
open PySem PySem.Spec PyProof.Rows L2 L2H HotX PySem.W
section
variable {X : Cx}
/-- data whose text may be shown -/
structure Shows (d : PyData) : Prop where
  s : d.showable = true
  nd : d.hasDict = false
  len : d.shown.length ≤ sizeLine
  dep : d.depth ≤ 60
/-- repr(x) of a list or a tuple that is data -/
def rRepr (K : PySem.W.Frag) : List V → Hp → VK → Prop := fun xs H Q => ∃ a d, xs = [.ref a] ∧ Dp K H (.ref a) d ∧ Shows d ∧ Q (.str d.shown) H
theorem call_reprD {g h : Bool} {k : Nat} {p : Addr × Obj} (c : Cxt X g h k p) (hg : g = true) : CallR X (.builtin "repr") (rRepr X.K) := by
  intro pins s σ H xs us Q I r hh
  obtain ⟨a, d, rfl, hd, sh, q⟩ := hh
  obtain ⟨u, rfl, rx⟩ := vals1 r
  cases rx
  obtain ⟨as, rd⟩ := Dp.reads I d _ _ hd rfl
  have hu := c.rm.units
  have hdep := sh.dep
  exact repr_of_reads' rd sh.s (fun z => by rw [sh.nd] at z; cases z) (c.rm.gd hg) (by omega) (fun _ _ e => e) (fun h' u tk k => ⟨.str d.shown, H, I.kept k, ⟨_, rfl⟩, q⟩) sh.len
/-- tuple(xs) of a list: the new tuple's object is known -/
def rTupF (K : PySem.W.Frag) : List V → Hp → VK → Prop := fun xs H Q => ∃ p ys, xs = [.ref p] ∧ SqL K H p ys ∧ ∀ l o, H l = none → o.dict = none → Q (.ref l) (upd H l (.frz o (.tup ys)))
theorem call_tupF : CallR X (.type "tuple") (rTupF X.K) := by
  intro pins s σ H xs us Q I r hh
  obtain ⟨p, ys, rfl, hq, q⟩ := hh
  obtain ⟨u, rfl, rx⟩ := vals1 r
  cases rx
  obtain ⟨its, r', pl, hz⟩ := I.list hq
  have hlen := r'.length
  refine call_tuple_list pl.isList (fun h' kp => ?_) (by simp only [List.size_toArray] <;> omega)
  have I1 : Inv X pins σ H { s with heap := h' } := I.kept (t' := s.toks) kp
  have ob : ObjOk X.prog X.w (upd H h'.objs.size (.frz { cls := .type "tuple", data := .seq its.toArray } (.tup ys))) (h'.push { cls := .type "tuple", data := .seq its.toArray }) h'.objs.size (.frz { cls := .type "tuple", data := .seq its.toArray } (.tup ys)) :=
    ⟨Heap.get?_push_size _ rfl, hz, its, r', IsTup.new _ _⟩
  have I2 := I1.laid (t' := s.toks) (fun b o e => Heap.get?_push_of_some _ e) (Nat.le_refl _) ob
  exact ⟨.ref h'.objs.size, _, I2, rfl, q _ _ (I1.hok.fresh (Nat.le_refl _)) rfl⟩
theorem pairs_vals {h : Heap} : ∀ {prs : List (Key × Value)} {ps : List Addr}, prs.length = ps.length → (∀ (j : Nat) (q : Key × Value), prs[j]? = some q → ∃ (b : Addr) (u : Value), ps[j]? = some b ∧ IsTup h b #[u, q.2] ∧ keyIs q.1 u = true) →
    ∃ vps : List (Value × Value), vps.length = prs.length ∧ ∀ (j : Nat) (k v : Value), vps[j]? = some (k, v) → ∃ (q : Key × Value) (b : Addr), prs[j]? = some q ∧ ps[j]? = some b ∧ IsTup h b #[k, v] ∧ keyIs q.1 k = true ∧ q.2 = v
  | [], ps, _, _ => ⟨[], rfl, fun j k v e => by simp at e⟩
  | q0 :: prs, [], hl, _ => by cases hl
  | q0 :: prs, p0 :: ps, hl, hpr => by
    obtain ⟨b, u, e1, e2, e3⟩ := hpr 0 q0 rfl
    obtain ⟨vps, h1, h2⟩ := pairs_vals (prs := prs) (ps := ps) (by simpa using hl) fun j q e => by
      have := hpr (j + 1) q (by simpa using e)
      simpa using this
    refine ⟨(u, q0.2) :: vps, by simp [h1], fun j k v e => ?_⟩
    cases j with
    | zero =>
      simp only [List.getElem?_cons_zero, Option.some.injEq, Prod.mk.injEq] at e
      obtain ⟨rfl, rfl⟩ := e
      exact ⟨q0, b, rfl, e1, e2, e3, rfl⟩
    | succ j =>
      obtain ⟨q, b, x1, x2, x3, x4⟩ := h2 j k v (by simpa using e)
      exact ⟨q, b, by simpa using x1, by simpa using x2, x3, x4⟩
/-- dict(t) of a tuple of pairs, its object known -/
def rDictT (K : PySem.W.Frag) : List V → Hp → VK → Prop := fun xs H Q => ∃ (a : Addr) (o : Obj) (ps : List Addr) (kvs : List (Key × V)), xs = [.ref a] ∧ H a = some (.frz o (.tup (ps.map V.ref))) ∧ o.dict = none ∧ Paired (fun p kv => SqT K H p [kV kv.1, kv.2]) ps kvs ∧
    ∀ p, H p = none → Q (.ref p) (upd H p (.dK (mergeK [] kvs)))
theorem call_dictT (hcalm : X.calm = true) : CallR X (.type "dict") (rDictT X.K) := by
  intro pins s σ H xs us Q I r hh
  obtain ⟨a, o, ps, kvs, rfl, ha, hod, hp, q⟩ := hh
  obtain ⟨u, rfl, rx⟩ := vals1 r
  cases rx
  obtain ⟨ho, hz, its, rv, o', ho', hc, n, hdat⟩ := (show ObjOk X.prog X.w H s.heap a (.frz o (.tup (ps.map V.ref))) from I.hok a _ ha)
  rw [ho] at ho'
  cases ho'
  have ei := refs_at rv
  subst ei
  rw [List.length_map] at hz
  obtain ⟨prs, rel, hl, hpr⟩ := pairs_of I hp
  obtain ⟨vps, hvl, hvp⟩ := pairs_vals hl hpr
  have P := PairArg.tuple (prog := X.prog) (w := X.w) a (ps.map Value.ref).toArray (fun j => ps.getD j 0) vps
  refine PySem.call_dict_pairs (knd := mixKind X.prog X.w) (kvs := prs) P (I.ok.hd hcalm) ⟨⟨o, n, ho, hc, hod, hdat⟩, ?_, fun j k v e => ?_⟩ ⟨hvl.symm, fun j k v e => ?_⟩ (by rw [hvl, hl]; exact hz) fun h' tk hd' k => ?_
  · simp [hvl, hl]
  · obtain ⟨q, b, x1, x2, x3, x4⟩ := hvp j k v e
    have hb : ps.getD j 0 = b := by rw [List.getD_eq_getElem?_getD, x2]; rfl
    refine ⟨?_, .inl ?_⟩
    · show (ps.map Value.ref).toArray[j]? = some (.ref (ps.getD j 0))
      rw [hb]
      simp [x2]
    · show Heap.IsTuple s.heap (ps.getD j 0) #[k, v]
      rw [hb]
      exact x3
  · obtain ⟨q, b, x1, x2, x3, x4, x5⟩ := hvp j k v e
    refine ⟨q.1, ?_, x4⟩
    rw [x1, ← x5]
  · have hm : (s.heap.objs.size == sysModules) = false := beq_eq_false_iff_ne.mpr (Nat.ne_of_gt I.big)
    have hlen : (mergeK [] kvs).length ≤ sizeLine := by
      refine Nat.le_trans (length_mergeK kvs []) ?_
      rw [List.length_nil, Nat.zero_add, rel.length, hl]
      exact hz
    exact ⟨.ref s.heap.objs.size, upd H s.heap.objs.size (.dK (mergeK [] kvs)), I.laid (t' := tk) (fun b o e => k b o (by simp) e) (Nat.le_refl _) (show ObjOk X.prog X.w _ _ _ (.dK (mergeK [] kvs)) from ⟨hlen, hm, merged [] prs, KV.merge rel .nil, hd'⟩), rfl, q _ (I.hok.fresh (Nat.le_refl _))⟩
/-- d == {} -/
def rEqE : R2 := fun x y H Q => ∃ a b kvs, x = .ref a ∧ y = .ref b ∧ Rd H a (.dK kvs) ∧ H b = some (.dK []) ∧ Q (.bl kvs.isEmpty) H
theorem op_eqE (hu : X.A.units < cLine) : OpR X (compareOp .Eq) rEqE := by
  intro pins s σ H x y v u Q I rx ry h
  obtain ⟨a, b, kvs, rfl, rfl, ea, eb, q⟩ := h
  obtain rfl : v = Value.ref a := rx
  obtain rfl : u = Value.ref b := ry
  obtain ⟨_, ya, va, ra, da⟩ := dk_rd I.hok ea
  obtain ⟨_, yb, vb, rb, db⟩ := (show ObjOk X.prog X.w H s.heap b (.dK []) from I.hok b _ eb)
  have rb' : vb = [] := by cases rb; rfl
  subst rb'
  have hl : kvs.length = va.length := ra.length
  refine PySem.W.keq_eq (knd := mixKind X.prog X.w) (r := true) ya yb da db hu (fun hz => ?_) (fin_bl I q ?_)
  · have : va = [] := by
      cases va with
      | nil => rfl
      | cons _ _ => simp at hz
    subst this
    exact .nil
  · cases kvs with
    | nil =>
      have : va = [] := by
        cases va with
        | nil => rfl
        | cons _ _ => simp at hl
      subst this
      rfl
    | cons p r =>
      cases va with
      | nil => simp at hl
      | cons _ _ => rfl
/-- xs.count(b) of bools -/
def rCntB (K : PySem.W.Frag) : V → List V → Hp → VK → Prop := fun x xs H Q => ∃ (p : Addr) (bs : List Bool) (k : Bool), x = .ref p ∧ xs = [.bl k] ∧ SqL K H p (bs.map V.bl) ∧ Q (.int (bs.count k : Nat)) H
theorem plain_bools : ∀ bs : List Bool, PyData.plainAll (bs.map PyData.bool) = true
  | [] => by simp [PyData.plainAll]
  | b :: bs => by
    show PyData.plainAll (PyData.bool b :: bs.map PyData.bool) = true
    rw [PyData.plainAll, plain_bools bs]
    simp [PyData.plain]
theorem depth_bools : ∀ bs : List Bool, PyData.depthAll (bs.map PyData.bool) = 0
  | [] => by simp [PyData.depthAll]
  | b :: bs => by
    show PyData.depthAll (PyData.bool b :: bs.map PyData.bool) = 0
    rw [PyData.depthAll, depth_bools bs]
    simp [PyData.depth]
theorem dp_bools {K : PySem.W.Frag} {H : Hp} : ∀ bs : List Bool, DpAll K H (bs.map V.bl) (bs.map PyData.bool)
  | [] => .nil
  | b :: bs => .cons (.bl b) (dp_bools bs)
theorem dp_strs {K : PySem.W.Frag} {H : Hp} : ∀ bs : List Str, DpAll K H (bs.map V.str) (bs.map PyData.str)
  | [] => .nil
  | b :: bs => .cons (.str b) (dp_strs bs)
theorem count_bools (k : Bool) : ∀ bs : List Bool, (bs.map PyData.bool).countP (fun y => PyData.eqv y (.bool k)) = bs.count k
  | [] => rfl
  | b :: bs => by
    rw [List.map_cons, List.countP_cons, count_bools k bs, List.count_cons]
    cases b <;> cases k <;> rfl
theorem mt_countB {g h : Bool} {j : Nat} {p : Addr × Obj} (c : Cxt X g h j p) : MtR X "list.count" (rCntB X.K) := by
  intro pins s σ H x xs v us Q I rx rxs hh
  obtain ⟨p, bs, k, rfl, rfl, hs, q⟩ := hh
  cases rx
  obtain ⟨u, rfl, ru⟩ := vals1 rxs
  cases ru
  obtain ⟨its, rv, pl, hz⟩ := I.list hs
  obtain ⟨as, rs⟩ := Dp.readsAll I (bs.map PyData.bool) _ its (dp_bools bs) rv
  have hu := c.rm.units
  have := PySem.SeqAt.count_list_data (prog := X.prog) (w := X.w) (A := X.A) (E := X.xe) (s := s) (Q := EP X pins σ Q) pl.isList (by simpa using rs) (Reads.bool k) (plain_bools bs) rfl (by rw [depth_bools]; show X.A.units + 1 + min 0 _ < _; omega) ⟨.int _, H, I.tok _, ⟨_, rfl⟩, by rw [count_bools]; exact q⟩
  exact this
/-- the least of texts -/
def minS : List Str → Str
  | [] => ⟨#[]⟩
  | x :: xs => match minD (.str x) (xs.map .str) with
    | .str y => y
    | _ => ⟨#[]⟩
theorem minD_str : ∀ (xs : List Str) (x : Str), ∃ y, minD (.str x) (xs.map .str) = .str y ∧ y ∈ x :: xs
  | [], x => ⟨x, rfl, List.mem_cons_self⟩
  | z :: xs, x => by
    show ∃ y, (xs.map PyData.str).foldl _ (if dataLt (.str z) (.str x) then PyData.str z else PyData.str x) = .str y ∧ _
    split
    · obtain ⟨y, e, m⟩ := minD_str xs z
      exact ⟨y, e, List.mem_cons_of_mem _ m⟩
    · obtain ⟨y, e, m⟩ := minD_str xs x
      refine ⟨y, e, ?_⟩
      rcases List.mem_cons.mp m with m | m
      · exact m ▸ List.mem_cons_self
      · exact List.mem_cons_of_mem _ (List.mem_cons_of_mem _ m)
theorem minS_cons {x y : Str} {xs : List Str} (e : minD (.str x) (xs.map .str) = .str y) : minS (x :: xs) = y := by
  show (match minD (.str x) (xs.map .str) with | .str y => y | _ => ⟨#[]⟩) = y
  rw [e]
theorem minS_mem {xs : List Str} (h : xs ≠ []) : minS xs ∈ xs := by
  cases xs with
  | nil => exact absurd rfl h
  | cons x xs =>
    obtain ⟨y, e, m⟩ := minD_str xs x
    rw [minS_cons e]
    exact m
theorem depth_strs : ∀ bs : List Str, PyData.depthAll (bs.map PyData.str) = 0
  | [] => by simp [PyData.depthAll]
  | b :: bs => by
    show PyData.depthAll (PyData.str b :: bs.map PyData.str) = 0
    rw [PyData.depthAll, depth_strs bs]
    simp [PyData.depth]
theorem alike_strs (xs : List Str) : AlikeAll (xs.map PyData.str) := ⟨fun d hd d' hd' => by
  obtain ⟨b, _, rfl⟩ := List.mem_map.mp hd
  obtain ⟨b', _, rfl⟩ := List.mem_map.mp hd'
  rfl, fun d hd => by
  obtain ⟨b, _, rfl⟩ := List.mem_map.mp hd
  exact fun e => by cases e⟩
/-- min(xs) of texts -/
def rMinS (K : PySem.W.Frag) : List V → Hp → VK → Prop := fun vs H Q => ∃ (a : Addr) (xs : List Str), vs = [.ref a] ∧ SqL K H a (xs.map V.str) ∧ xs ≠ [] ∧ Q (.str (minS xs)) H
theorem cr_minS {g h : Bool} {j : Nat} {p : Addr × Obj} (c : Cxt X g h j p) (hc : X.calm = true) : CallR X (.builtin "min") (rMinS X.K) := by
  intro pins s σ H vs us Q I r hh
  obtain ⟨a, xs, rfl, hs, hne, q⟩ := hh
  obtain ⟨u, rfl, ru⟩ := vals1 r
  cases ru
  obtain ⟨its, rv, pl, hz⟩ := I.list hs
  cases xs with
  | nil => exact absurd rfl hne
  | cons x xs =>
    obtain ⟨as, rs⟩ := Dp.readsAll I ((x :: xs).map PyData.str) _ its (dp_strs (x :: xs)) rv
    have hu := c.rm.units
    obtain ⟨y, ey, my⟩ := minD_str xs x
    refine min_list_data (x := .str x) (xs := xs.map .str) (I.ok.hd hc) pl.isList (by simpa using rs) (alike_strs (x :: xs)) (by
      have := depth_strs (x :: xs)
      rw [List.map_cons] at this
      rw [this]; omega) fun i v h' tk bs hi hr hk => ?_
    rw [ey] at hr
    obtain ⟨t, rfl⟩ : ∃ t, v = .str y t := by cases hr; exact ⟨_, rfl⟩
    refine ⟨.str y, H, I.kept hk, ⟨_, rfl⟩, ?_⟩
    rw [minS_cons ey] at q
    exact q
/-- list(s): its signs -/
def signs (x : Str) : List Str := x.cps.toList.map fun c => ⟨#[c]⟩
def rLstS : List V → Hp → VK → Prop := fun xs H Q => ∃ x, xs = [.str x] ∧ x.cps.size ≤ sizeLine ∧ ∀ l, H l = none → Q (.ref l) (upd H l (.lst ((signs x).map V.str)))
theorem call_lstS (hc : X.calm = true) : CallR X (.type "list") rLstS := by
  intro pins s σ H xs us Q I r hh
  obtain ⟨x, rfl, hz, q⟩ := hh
  obtain ⟨u, rfl, t, rfl⟩ := vals1 r
  refine PySem.call_list_str (I.ok.hd hc) x t (fun h' tk acc' c' hk hS hI => ?_) hz
  have rv : Vals ((signs x).map V.str) acc'.toList := by
    have hl : acc'.toList.length = ((signs x).map V.str).length := by
      rw [Array.length_toList, hI.1]
      simp [signs]
    have : ∀ (j : Nat) v, acc'.toList[j]? = some v → ∃ y, ((signs x).map V.str)[j]? = some y ∧ RelV y v := fun j v e => by
      obtain ⟨c, u, e1, e2⟩ := hI.2 j v (by rw [← Array.getElem?_toList]; exact e)
      exact ⟨.str ⟨#[c]⟩, by simp [signs, e1], ⟨u, e2⟩⟩
    clear hI hS q
    generalize (signs x).map V.str = ys at hl this
    generalize acc'.toList = zs at hl this
    induction ys generalizing zs with
    | nil =>
      cases zs with
      | nil => exact .nil
      | cons _ _ => cases hl
    | cons y ys ih =>
      cases zs with
      | nil => cases hl
      | cons z zs =>
        obtain ⟨y', e, ry⟩ := this 0 z rfl
        cases e
        refine .cons ry (ih zs (by simpa using hl) fun j v e => ?_)
        have := this (j + 1) v (by simpa using e)
        simpa using this
  have hlen : ((signs x).map V.str).length ≤ sizeLine := by simpa [signs] using hz
  have ob : ObjOk X.prog X.w (upd H s.heap.objs.size (.lst ((signs x).map V.str))) h' s.heap.objs.size (.lst ((signs x).map V.str)) := ⟨hlen, acc'.toList, c', rv, by rw [Array.toArray_toList]; exact hS⟩
  exact ⟨.ref s.heap.objs.size, _, I.laid (t' := tk) hk (Nat.le_refl _) ob, rfl, q _ (I.hok.fresh (Nat.le_refl _))⟩
end
end Spf
end
section
set_option maxHeartbeats 4000000
/-! Own layer 11: rules for a comprehension's block, the written part named. -/
namespace Spf
open PySem PySem.Spec PyProof.Rows L2 L2H HotX
theorem _root_.L2.Same.new {a : Addr} {H H1 : Hp} {o : HO} (e : Same H H1) (h : H1 a = none) : Same H (upd H1 a o) := fun c q hc => by
  have := e c q hc
  rw [upd_ne (ne_of_none this h)]
  exact this
section
variable {X : Cx} (K : PySem.W.Frag)
theorem ix_listK (h : X.K = K := by rfl) : IxR X (rIxL K) := h ▸ ix_list
theorem ix_tupK (h : X.K = K := by rfl) : IxR X (rIxT K) := h ▸ ix_tup
theorem call_len_seqK (h : X.K = K := by rfl) : CallR X (.builtin "len") (fun xs H Q => ∃ p ys, xs = [.ref p] ∧ (SqL K H p ys ∨ SqT K H p ys) ∧ Q (.int ys.length) H) := h ▸ call_len_seq
theorem pe_bmSK {o e : Expr} {es : List Expr} {to : TE} {t : TA} {name : Str} {apos cpos : Pos} {T id : String} {r : L2.St → V → List V → Hp → VK → Prop} (pa : PlainAttrs T) (slot : Slot T name id) (hty : typeOf (.builtin id) = pure (.type "method_descriptor")) (hm : MtS X id r) (ho : PE X o to) (ha : PA X (e :: es) t) (h : X.K = K := by rfl)
    (hbase : attributeBase o name X.env (eval o X.env) = eval o X.env := by rfl)
    (hfew : ((backTo cpos (starEach (e :: es) X.env)).all (fun x => !x.1) && (backToKw cpos (keywordEach [] X.env)).all (fun x => x.1.isSome)
      && decide ((e :: es).length + ([] : List Keyword).length + (if ([] : List Keyword).isEmpty then 0 else 1) < 30)) = true := by rfl)
    (hline : (apos.endLine == cpos.line) = true := by rfl) (hs : starEach (e :: es) X.env = (false, eval e X.env) :: starEach es X.env := by rfl) (hplain : (backTo cpos (starEach es X.env)).any (·.1) = false := by rfl) :
    PE X (.Call (.Attribute o name apos) (e :: es) [] cpos) (tBMS K T r to t) := h ▸ pe_bmS pa slot hty hm ho ha hbase hfew hline hs hplain
theorem pg_tupK {es : List Expr} {k : Nat} {t : TGs} {n : Nat} {pos : Pos} (hc : Md X) (h : PGs X es t) (hK : X.K = K := by rfl)
    (hn : (assignEach es X.env).length = n := by rfl) (hst : (assignEach es X.env).findIdx? (·.1) = none := by rfl) : PG X (.Tuple es k pos) (gTup K n t) := hK ▸ pg_tupX hc h hn hst
theorem op_in_seqK (h : X.K = K := by rfl) : OpR X (compareOp .In) (rIn K false) := h ▸ op_in_seq
theorem op_notIn_seqK (h : X.K = K := by rfl) : OpR X (compareOp .NotIn) (rIn K true) := h ▸ op_notIn_seq
end
/-! ### comprehensions that make one item a turn and leave the rest as it is -/
section
variable {g : TG} {tt : TT} {te : TE} {vs : List Nat} {σ : L2.St} {H1 : Hp} {D : Addr} {Qd : Hp → Prop} {ys : List V} {K : PySem.W.Frag}
theorem lc_mapG {J : It} (n : Nat) (xs : Nat → V → Prop) (hD : H1 D = none) (hgo : ∀ i H, i < n → Same H1 H → J.go i H) (hyld : ∀ i H x H', i < n → Same H1 H → J.yld i H x H' → H' = H ∧ xs i x) (hstop : ∀ H, Same H1 H → J.stop n H)
    (hl : ys.length = n) (hn : n ≤ 1000000)
    (hs : ∀ i x H (Qe : VK), i < n → xs i x → Same H1 H → (∀ y H4, ys[i]? = some y → Same H H4 → Qe y H4) → g x (wipe σ vs) H fun σ2 H2 => wipe σ2 vs = wipe σ vs ∧ tt σ2 H2 fun b H3 => b = true ∧ te σ2 H3 Qe)
    (mono : ∀ x σ H Q Q', (∀ σ2 H2, Q σ2 H2 → Q' σ2 H2) → g x σ H Q → g x σ H Q') (mono2 : ∀ σ H Q Q', (∀ b H2, Q b H2 → Q' b H2) → tt σ H Q → tt σ H Q')
    (hd : ∀ H, Same H1 H → H D = some (.lst ys) → Qd H) :
    ∃ W : Nat → Nat → Hp → Prop, (∃ m, W 0 m (upd H1 D (.lst []))) ∧ ∀ i m H, W i m H →
      (J.stop i H ∧ Qd H) ∨ (J.go i H ∧ ∃ Nx : Hp → Prop, (∀ H', Nx H' → ∃ m', m' < m ∧ W (i + 1) m' H') ∧ ∀ x H', J.yld i H x H' → g x (wipe σ vs) H' fun σ2 H2 => wipe σ2 vs = wipe σ vs ∧ tt σ2 H2 fun b H3 =>
        if b = true then te σ2 H3 fun y H4 => ∃ acc, H4 D = some (.lst acc) ∧ acc.length < sizeLine ∧ Nx (upd H4 D (.lst (acc ++ [y]))) else Nx H3) := by
  refine ⟨fun i m H => m = n - i ∧ i ≤ n ∧ Same H1 H ∧ H D = some (.lst (ys.take i)), ⟨n, by simp, Nat.zero_le _, (Same.refl _).new hD, upd_same⟩, ?_⟩
  rintro i m H ⟨rfl, hi, p1, p2⟩
  by_cases hlt : i < n
  · refine .inr ⟨hgo i H hlt p1, fun H' => Same H1 H' ∧ H' D = some (.lst (ys.take (i + 1))), fun H' p' => ⟨n - (i + 1), by omega, rfl, hlt, p'⟩, fun x H' y => ?_⟩
    obtain ⟨rfl, hx⟩ := hyld i H x H' hlt p1 y
    have := hs i x H' (fun y H4 => ∃ acc, H4 D = some (.lst acc) ∧ acc.length < sizeLine ∧ Same H1 (upd H4 D (.lst (acc ++ [y]))) ∧ upd H4 D (.lst (acc ++ [y])) D = some (.lst (ys.take (i + 1)))) hlt hx p1 (fun y H4 hy s4 => ?_)
    · refine mono _ _ _ _ _ (fun σ2 H2 ⟨e, h⟩ => ⟨e, mono2 _ _ _ _ (fun b H3 ⟨eb, h⟩ => ?_) h⟩) this
      subst eb
      rw [if_pos rfl]
      exact h
    · refine ⟨_, s4 _ _ p2, ?_, fun a o ha => ?_, ?_⟩
      · rw [List.length_take, sizeLine_eq]; omega
      · rw [upd_ne (ne_of_none ha hD)]
        exact s4 _ _ (p1 _ _ ha)
      · rw [upd_same, List.take_add_one, hy]
        rfl
  · have e : i = n := by omega
    subst e
    rw [← hl, List.take_length] at p2
    exact .inl ⟨hstop H p1, hd H p1 p2⟩
theorem lc_mapStr {x : Str} (hD : H1 D = none) (hl : ys.length = x.cps.size) (hn : x.cps.size ≤ 1000000)
    (hs : ∀ (i c : Nat) (H : Hp) (Qe : VK), x.cps[i]? = some c → Same H1 H → (∀ y H4, ys[i]? = some y → Same H H4 → Qe y H4) → g (.str ⟨#[c]⟩) (wipe σ vs) H fun σ2 H2 => wipe σ2 vs = wipe σ vs ∧ tt σ2 H2 fun b H3 => b = true ∧ te σ2 H3 Qe)
    (hd : ∀ H, Same H1 H → H D = some (.lst ys) → Qd H)
    (mono : ∀ x σ H Q Q', (∀ σ2 H2, Q σ2 H2 → Q' σ2 H2) → g x σ H Q → g x σ H Q' := by exact fun _ _ _ _ _ h q => h _ _ q) (mono2 : ∀ σ H Q Q', (∀ b H2, Q b H2 → Q' b H2) → tt σ H Q → tt σ H Q' := by exact fun _ _ _ _ h q => h _ _ q) :
    ∃ W : Nat → Nat → Hp → Prop, (∃ m, W 0 m (upd H1 D (.lst []))) ∧ ∀ i m H, W i m H →
      ((Its x).stop i H ∧ Qd H) ∨ ((Its x).go i H ∧ ∃ Nx : Hp → Prop, (∀ H', Nx H' → ∃ m', m' < m ∧ W (i + 1) m' H') ∧ ∀ v H', (Its x).yld i H v H' → g v (wipe σ vs) H' fun σ2 H2 => wipe σ2 vs = wipe σ vs ∧ tt σ2 H2 fun b H3 =>
        if b = true then te σ2 H3 fun y H4 => ∃ acc, H4 D = some (.lst acc) ∧ acc.length < sizeLine ∧ Nx (upd H4 D (.lst (acc ++ [y]))) else Nx H3) :=
  lc_mapG x.cps.size (fun i v => ∃ c, x.cps[i]? = some c ∧ v = .str ⟨#[c]⟩) hD (fun i H h _ => h) (fun i H v H' h _ y => y) (fun H _ => Nat.le_refl _) hl hn (fun i v H Qe h ⟨c, hc, e⟩ s q => e ▸ hs i c H Qe hc s q) mono mono2 hd
theorem lc_mapRange {lo : Int} {n : Nat} (hD : H1 D = none) (hl : ys.length = n) (hn : n ≤ 1000000)
    (hs : ∀ (i : Nat) (H : Hp) (Qe : VK), i < n → Same H1 H → (∀ y H4, ys[i]? = some y → Same H H4 → Qe y H4) → g (.int (lo + i)) (wipe σ vs) H fun σ2 H2 => wipe σ2 vs = wipe σ vs ∧ tt σ2 H2 fun b H3 => b = true ∧ te σ2 H3 Qe)
    (hd : ∀ H, Same H1 H → H D = some (.lst ys) → Qd H)
    (mono : ∀ x σ H Q Q', (∀ σ2 H2, Q σ2 H2 → Q' σ2 H2) → g x σ H Q → g x σ H Q' := by exact fun _ _ _ _ _ h q => h _ _ q) (mono2 : ∀ σ H Q Q', (∀ b H2, Q b H2 → Q' b H2) → tt σ H Q → tt σ H Q' := by exact fun _ _ _ _ h q => h _ _ q) :
    ∃ W : Nat → Nat → Hp → Prop, (∃ m, W 0 m (upd H1 D (.lst []))) ∧ ∀ i m H, W i m H →
      ((Itr lo n).stop i H ∧ Qd H) ∨ ((Itr lo n).go i H ∧ ∃ Nx : Hp → Prop, (∀ H', Nx H' → ∃ m', m' < m ∧ W (i + 1) m' H') ∧ ∀ v H', (Itr lo n).yld i H v H' → g v (wipe σ vs) H' fun σ2 H2 => wipe σ2 vs = wipe σ vs ∧ tt σ2 H2 fun b H3 =>
        if b = true then te σ2 H3 fun y H4 => ∃ acc, H4 D = some (.lst acc) ∧ acc.length < sizeLine ∧ Nx (upd H4 D (.lst (acc ++ [y]))) else Nx H3) :=
  lc_mapG n (fun i v => v = .int (lo + i)) hD (fun i H h _ => h) (fun i H v H' h _ y => ⟨y.1, y.2⟩) (fun H _ => Nat.le_refl _) hl hn (fun i v H Qe h e s q => e ▸ hs i H Qe h s q) mono mono2 hd
theorem lc_mapList {a : Addr} {xs : List V} (hD : H1 D = none) (ha : SqL K H1 a xs) (hl : ys.length = xs.length) (hn : xs.length ≤ 1000000)
    (hs : ∀ (i : Nat) (x : V) (H : Hp) (Qe : VK), xs[i]? = some x → Same H1 H → (∀ y H4, ys[i]? = some y → Same H H4 → Qe y H4) → g x (wipe σ vs) H fun σ2 H2 => wipe σ2 vs = wipe σ vs ∧ tt σ2 H2 fun b H3 => b = true ∧ te σ2 H3 Qe)
    (hd : ∀ H, Same H1 H → H D = some (.lst ys) → Qd H)
    (mono : ∀ x σ H Q Q', (∀ σ2 H2, Q σ2 H2 → Q' σ2 H2) → g x σ H Q → g x σ H Q' := by exact fun _ _ _ _ _ h q => h _ _ q) (mono2 : ∀ σ H Q Q', (∀ b H2, Q b H2 → Q' b H2) → tt σ H Q → tt σ H Q' := by exact fun _ _ _ _ h q => h _ _ q) :
    ∃ W : Nat → Nat → Hp → Prop, (∃ m, W 0 m (upd H1 D (.lst []))) ∧ ∀ i m H, W i m H →
      ((Itl K a).stop i H ∧ Qd H) ∨ ((Itl K a).go i H ∧ ∃ Nx : Hp → Prop, (∀ H', Nx H' → ∃ m', m' < m ∧ W (i + 1) m' H') ∧ ∀ v H', (Itl K a).yld i H v H' → g v (wipe σ vs) H' fun σ2 H2 => wipe σ2 vs = wipe σ vs ∧ tt σ2 H2 fun b H3 =>
        if b = true then te σ2 H3 fun y H4 => ∃ acc, H4 D = some (.lst acc) ∧ acc.length < sizeLine ∧ Nx (upd H4 D (.lst (acc ++ [y]))) else Nx H3) :=
  lc_mapG xs.length (fun i v => xs[i]? = some v) hD (fun i H h s => ⟨xs, xs[i], s.seq ha, by simp [h]⟩) (fun i H v H' h s y => ⟨y.1, y.2 xs (s.seq ha)⟩) (fun H s => ⟨xs, s.seq ha, Nat.le_refl _⟩) hl hn (fun i v H Qe h e s q => hs i v H Qe e s q) mono mono2 hd
end
end Spf
end
section
set_option maxHeartbeats 4000000
/-! Own layer 12: xs != [], data of ints and texts, comparisons settled. -/
namespace Spf
open PySem PySem.Spec PyProof.Rows L2 L2H HotX
section
variable {X : Cx}
/-- xs != [] -/
def rNeE (K : PySem.W.Frag) : R2 := fun x y H Q => ∃ a b xs, x = .ref a ∧ y = .ref b ∧ SqL K H a xs ∧ SqL K H b [] ∧ Q (.bl (!xs.isEmpty)) H
theorem op_neE (hu : X.A.units < cLine) : OpR X (compareOp .NotEq) (rNeE X.K) := by
  intro pins s σ H x y v u Q I rx ry h
  obtain ⟨a, b, xs, rfl, rfl, ha, hb, q⟩ := h
  obtain rfl : v = Value.ref a := rx
  obtain rfl : u = Value.ref b := ry
  obtain ⟨ia, ra, pa, _⟩ := I.list ha
  obtain ⟨ib, rb, pb, _⟩ := I.list hb
  cases rb
  cases xs with
  | nil =>
    cases ra
    exact (SeqAt.RcNeAt.lists (e := fun _ => true) pa.isList pb.isList rfl hu (fun j h1 h2 => by simp at h1)) X.prog X.w _ _ ⟨.bl false, H, I, rfl, q⟩
  | cons x xs =>
    cases ra
    exact (SeqAt.RcNeAt.lists_lengths pa.isList pb.isList (by simp) hu) X.prog X.w _ _ ⟨.bl true, H, I, rfl, q⟩
/-- a built-in class as a value -/
theorem pe_tyB (T : String) {x : Str} {pos : Pos} (hg : Gl X x) (hm : X.mg x = none) (hv : bootBuiltins x = some (.type T)) (hn : x ≠ "__name__" := by decide) (hdb : (x == ("__debug__" : Str)) = false := by decide) : PE X (.Name x pos) (tC (.ty T)) := pe_bltn hg hm hv rfl hn hdb
theorem call_isiK2 (K : PySem.W.Frag) (h : X.K = K := by rfl) : CallR X (.builtin "isinstance") (rIsi K) := h ▸ call_isi
theorem Cxt.u0 {g h : Bool} {k : Nat} {p : Addr × Obj} (c : Cxt X g h k p) : X.A.units < cLine := by have := c.rm.units; omega
theorem Cxt.u1 {g h : Bool} {k : Nat} {p : Addr × Obj} (c : Cxt X g h k p) : X.A.units + 1 < cLine := by have := c.rm.units; omega
end
theorem ifF {b : Bool} {A B : Prop} (h : b = false) (x : B) : if b = true then A else B := by rw [if_neg (by rw [h]; decide)]; exact x
theorem ifT {b : Bool} {A B : Prop} (h : b = true) (x : A) : if b = true then A else B := by rw [if_pos h]; exact x
/-! ### data -/
theorem dp_ints {K : PySem.W.Frag} {H : Hp} : ∀ xs : List Int, DpAll K H (xs.map V.int) (xs.map PyData.int)
  | [] => .nil
  | x :: xs => .cons (.int x) (dp_ints xs)
theorem eqv_ints : ∀ xs ys : List Int, PyData.eqvAll (xs.map .int) (ys.map .int) = decide (xs = ys)
  | [], [] => by simp [PyData.eqvAll]
  | [], y :: ys => by simp [PyData.eqvAll]
  | x :: xs, [] => by simp [PyData.eqvAll]
  | x :: xs, y :: ys => by
    rw [List.map_cons, List.map_cons, PyData.eqvAll, eqv_ints xs ys]
    by_cases h : x = y <;> by_cases h2 : xs = ys <;> simp [PyData.eqv, h, h2]
theorem eqv_strs : ∀ xs ys : List Str, PyData.eqvAll (xs.map .str) (ys.map .str) = decide (xs = ys)
  | [], [] => by simp [PyData.eqvAll]
  | [], y :: ys => by simp [PyData.eqvAll]
  | x :: xs, [] => by simp [PyData.eqvAll]
  | x :: xs, y :: ys => by
    rw [List.map_cons, List.map_cons, PyData.eqvAll, eqv_strs xs ys]
    by_cases h : x = y <;> by_cases h2 : xs = ys <;> simp [PyData.eqv, h, h2]
theorem lay_ints : ∀ xs : List Int, PyData.canLayAll0 (xs.map PyData.int) = true
  | [] => by simp [PyData.canLayAll0]
  | x :: xs => by simp [PyData.canLayAll0, PyData.canLay0, lay_ints xs]
def SOk (xs : List Str) : Prop := ∀ x ∈ xs, PyData.strOk x = true
theorem lay_strs : ∀ {xs : List Str}, SOk xs → PyData.canLayAll0 (xs.map PyData.str) = true
  | [], _ => by simp [PyData.canLayAll0]
  | x :: xs, h => by simp [PyData.canLayAll0, PyData.canLay0, lay_strs (xs := xs) fun y hy => h y (List.mem_cons_of_mem _ hy), h x List.mem_cons_self]
theorem depth_ints : ∀ xs : List Int, PyData.depthAll (xs.map PyData.int) = 0
  | [] => by simp [PyData.depthAll]
  | x :: xs => by simp [PyData.depthAll, PyData.depth, depth_ints xs]
theorem shaped_tup_ints (xs : List Int) : SeqAt.shaped (.tuple (xs.map .int)) = true := by
  simp [SeqAt.shaped, PyData.canLay0, PyData.depth, lay_ints, depth_ints]
theorem shaped_lst_ints (xs : List Int) : SeqAt.shaped (.list (xs.map .int)) = true := by
  simp [SeqAt.shaped, PyData.canLay0, PyData.depth, lay_ints, depth_ints]
theorem shaped_tup_strs {xs : List Str} (h : SOk xs) : SeqAt.shaped (.tuple (xs.map .str)) = true := by
  simp [SeqAt.shaped, PyData.canLay0, PyData.depth, lay_strs h, depth_strs]
theorem shaped_lst_strs {xs : List Str} (h : SOk xs) : SeqAt.shaped (.list (xs.map .str)) = true := by
  simp [SeqAt.shaped, PyData.canLay0, PyData.depth, lay_strs h, depth_strs]
theorem eqv_tup_ints (xs ys : List Int) : PyData.eqv (.tuple (xs.map .int)) (.tuple (ys.map .int)) = decide (xs = ys) := by rw [PyData.eqv, eqv_ints]
theorem eqv_lst_ints (xs ys : List Int) : PyData.eqv (.list (xs.map .int)) (.list (ys.map .int)) = decide (xs = ys) := by rw [PyData.eqv, eqv_ints]
theorem eqv_tup_strs (xs ys : List Str) : PyData.eqv (.tuple (xs.map .str)) (.tuple (ys.map .str)) = decide (xs = ys) := by rw [PyData.eqv, eqv_strs]
theorem eqv_lst_strs (xs ys : List Str) : PyData.eqv (.list (xs.map .str)) (.list (ys.map .str)) = decide (xs = ys) := by rw [PyData.eqv, eqv_strs]
section
variable {K : PySem.W.Frag} {H : Hp} {a b : Addr} {Q : VK}
/-- tuples of ints compared -/
theorem rEq_tupI {xs ys : List Int} (ha : SqT K H a (xs.map V.int)) (hb : SqT K H b (ys.map V.int)) (q : Q (.bl (decide (xs = ys))) H) : rEqD K (.ref a) (.ref b) H Q :=
  ⟨_, _, .tup ha (dp_ints xs), .tup hb (dp_ints ys), shaped_tup_ints xs, shaped_tup_ints ys, by rw [eqv_tup_ints]; exact q⟩
theorem rEq_tupS {xs ys : List Str} (hx : SOk xs) (hy : SOk ys) (ha : SqT K H a (xs.map V.str)) (hb : SqT K H b (ys.map V.str)) (q : Q (.bl (decide (xs = ys))) H) : rEqD K (.ref a) (.ref b) H Q :=
  ⟨_, _, .tup ha (dp_strs xs), .tup hb (dp_strs ys), shaped_tup_strs hx, shaped_tup_strs hy, by rw [eqv_tup_strs]; exact q⟩
theorem rNe_lstI {xs ys : List Int} (ha : SqL K H a (xs.map V.int)) (hb : SqL K H b (ys.map V.int)) (q : Q (.bl (!decide (xs = ys))) H) : rNeD K (.ref a) (.ref b) H Q :=
  ⟨_, _, .lst ha (dp_ints xs), .lst hb (dp_ints ys), shaped_lst_ints xs, shaped_lst_ints ys, by rw [eqv_lst_ints]; exact q⟩
end
end Spf
end
section
set_option maxHeartbeats 4000000
/-! Own layer 13: zip(list, tuple), enumerate(tuple). -/
namespace PySem
open Spec W
theorem meets_enumerate_newB1 {v : Value} {o : Obj} {H : Heap → Prop} (B : Begins v o H) :
    Meets (Builtin.«enumerate.__new__» ⟨[.type "enumerate", v], []⟩) (fun _ R s => H s.heap ∧
      R (.ok (.ret (.ref (s.heap.push o).objs.size))) { s with heap := (s.heap.push o).push { cls := .type "enumerate", data := .fields #[.none, .bool false, .ref s.heap.objs.size, rawInt 0, .none, .none] } }) :=
  .of_wp fun prog w A R s h => by
    obtain ⟨hp, g, d, tk, os⟩ := s; obtain ⟨h1, h⟩ := h
    have hsub := sub_enumerate
    have q1 : ∀ {A' : Around} {E : Value → Shared → Prop} {Q : Value → Shared → Prop}, Q (.ref hp.objs.size) ⟨hp.push o, g, d, tk, os⟩ → wpAny (model prog w) A' (pyIter v) Q E ⟨hp, g, d, tk, os⟩ :=
      fun q => B.iter prog w _ _ ⟨hp, g, d, tk, os⟩ _ h1 q
    wp_walk using q1
    refine wpAny_stack_any fun st => wpAny_pure ?_
    split
    · rename_i c _ _ _ _ _
      cases (c == Value.type "enumerate")
      · wp_walk using q1
        exact ⟨_, rfl, h⟩
      · wp_walk using q1
        exact ⟨_, rfl, h⟩
    · wp_walk using q1
      exact ⟨_, rfl, h⟩
variable {prog : Program} {w : World} {A : Around} {E : Value → Shared → Prop} {s : Shared}
theorem call_enumerate_begins {v : Value} {o : Obj} {H : Heap → Prop} {Q : Value → Shared → Prop} (B : Begins v o H) (h1 : H s.heap)
    (h : ∀ h', IsEnum h' (s.heap.objs.size + 1) s.heap.objs.size 0 .none → h'.get? s.heap.objs.size = some o → h'.objs.size = s.heap.objs.size + 2 →
      (∀ b o, s.heap.get? b = some o → h'.get? b = some o) → Q (.ref (s.heap.objs.size + 1)) { s with heap := h' }) :
    wpAny (model prog w) A (call (.type "enumerate") [v]) Q E s := by
  refine callType_new F.called_enumerate (by decide) (F.typeCall_enumerate_1 _) (F.newCall_enumerate_1 _) (fun obj => F.args_object_init_2 obj _) F.entry_enumerate_new
    (meets_enumerate_newB1 B) ⟨h1, ?_⟩
  have hz : (s.heap.push o).objs.size = s.heap.objs.size + 1 := Heap.size_push ..
  show _ ∧ _
  rw [hz]
  have he : IsEnum ((s.heap.push o).push { cls := .type "enumerate", data := .fields #[.none, .bool false, .ref s.heap.objs.size, rawInt 0, .none, .none] }) (s.heap.objs.size + 1) s.heap.objs.size 0 .none := by
    have := Heap.get?_push_size (s.heap.push o) (o := { cls := .type "enumerate", data := .fields #[.none, .bool false, .ref s.heap.objs.size, rawInt 0, .none, .none] }) rfl
    rw [hz] at this; exact this
  refine ⟨⟨_, he, rfl⟩, h _ he (Heap.get?_push_of_some _ (Heap.get?_push_size _ B.free)) (by rw [Heap.size_push, hz]) fun b o x => Heap.get?_push_of_some _ (Heap.get?_push_of_some _ x)⟩
end PySem
namespace Spf
open PySem PySem.Spec PyProof.Rows L2 L2H HotX
/-! ### enumerate(tuple) -/
def IteT (K : PySem.W.Frag) (a : Addr) : It :=
  ⟨fun i H => ∃ (xs : List V) (x : V), SqT K H a xs ∧ xs[i]? = some x,
    fun i H v H' => ∃ T x, v = .ref T ∧ H T = none ∧ H' = upd H T (.tup [.int (i : Nat), x]) ∧ ∀ xs, SqT K H a xs → xs[i]? = some x,
    fun i H => ∃ xs : List V, SqT K H a xs ∧ xs.length = i⟩
theorem turn_enumT {P : Program} {w : World} {K : PySem.W.Frag} {elts : List Expr} {kk : Nat} {tpos : Pos} (a e it : Addr) :
    Turn P w K (.Tuple elts kk tpos) (IteT K a) [e, it] e (fun i h => (∃ old, IsEnum h e it ((i : Nat) : Int) old) ∧ h.IsTupleIter it a i ∧ e ≠ it ∧ a ≠ e ∧ a ≠ it) where
  mem := by simp
  obj := fun i h st b hb => by
    obtain ⟨⟨old, he⟩, ⟨o, ho, hc, hd⟩, _⟩ := st
    have e' : b = e ∨ b = it := by simpa using hb
    rcases e' with z | z
    · rw [z]; exact ⟨_, he, fun v q => nomatch q⟩
    · rw [z]; exact ⟨o, ho, fun v q => by rw [hd] at q; cases q⟩
  keep := fun i h h' st k => let ⟨⟨old, he⟩, hi, hne⟩ := st; ⟨⟨old, k e (by simp) _ he⟩, hi.at fun o q => k it (by simp) o q, hne⟩
  item := by
    intro X hP hw hK hc i pins s σ H E I hf st hg
    subst hP hw hK
    obtain ⟨⟨old, he⟩, hit, hne, nae, nai⟩ := st
    obtain ⟨xs, x, hq, hx⟩ := hg
    obtain ⟨its, rv, p, hz⟩ := I.tuple hq
    obtain ⟨u, hu, ru⟩ := rv.get hx
    have hel : e < s.heap.objs.size := Heap.lt_size he
    have hil : it < s.heap.objs.size := by obtain ⟨_, q, _⟩ := hit; exact Heap.lt_size q
    have hlt : i < its.toArray.size := by
      have := (List.getElem?_eq_some_iff.mp hu).1
      simpa using this
    refine wpAny_pyNext_enum_itemC (Draws.tuple (A := X.A.in1) (I.ok.hd hc) it a nai its.toArray) he ⟨hit, p⟩ hlt hne (by simp; exact ⟨hne, nae.symm⟩) fun x1 h' tk hP ho hit' hT hsz hk => ?_
    have ex1 : x1 = u := by
      have : its.toArray[i]? = some u := by simpa using hu
      rw [this] at hP
      exact (Option.some.inj hP).symm
    subst ex1
    refine ⟨_, rfl, wpAny_letOwnedTupleGo_enum (s := { s with heap := h', toks := tk + 1 }) ho fun h'' he' sb => ?_⟩
    have hT2 : h''.get? s.heap.objs.size = some { cls := .type "tuple", data := .seq #[.int i tk, x1] } := (sb.2 _ (Nat.ne_of_gt hel)).trans hT
    have new : ObjOk X.prog X.w (upd H s.heap.objs.size (.tup [.int (i : Nat), x])) h'' s.heap.objs.size (.tup [.int (i : Nat), x]) :=
      ⟨by show 2 ≤ sizeLine; decide, [.int i tk, x1], .cons ⟨_, rfl⟩ (.cons ru .nil), ⟨_, hT2, rfl, _, rfl⟩⟩
    have I1 : Inv X pins σ (upd H s.heap.objs.size (.tup [.int (i : Nat), x])) { s with heap := h'', toks := tk + 1 } :=
      I.turnedNew (ch := [e, it]) (fun b ob hb q => (sb.2 b (fun z => hb (by simp [z]))).trans (hk b ob (fun z => hb (by simp [z])) (fun z => hb (by simp [z])) q)) hf (Nat.le_refl _) new
    refine ⟨.ref s.heap.objs.size, _, I1, rfl, ⟨_, x, rfl, I.hok.fresh (Nat.le_refl _), rfl, fun ys hy => by rw [I.tuple_inj hy hq]; exact hx⟩, ⟨⟨x1, ?_⟩, hit'.1.at fun o q => (sb.2 it (Ne.symm hne)).trans q, hne, nae, nai⟩, fun b hb => ?_⟩
    · have e1 : ((i + 1 : Nat) : Int) = (i : Int) + 1 := by omega
      rw [e1]; exact he'
    · have hb' : b < s.heap.objs.size := by
        have e' : b = e ∨ b = it := by simpa using hb
        rcases e' with z | z
        · rw [z]; exact hel
        · rw [z]; exact hil
      rw [upd_ne (Nat.ne_of_lt hb')]
      exact (hf b hb).1
  done := by
    intro X hP hw hK hc i pins s σ H E I hf st hg
    subst hP hw hK
    obtain ⟨⟨old, he⟩, hit, hne, nae, nai⟩ := st
    obtain ⟨xs, hq, hx⟩ := hg
    obtain ⟨its, rv, p, hz⟩ := I.tuple hq
    obtain ⟨f0, f1, f2, f3, f4, f5⟩ := hf it (by simp)
    have hl := rv.length
    have en : i = its.toArray.size := by simp; omega
    subst en
    exact wpAny_pyNext_enum_endD (Draws.tuple (A := X.A.in1) (I.ok.hd hc) it a nai its.toArray) he ⟨hit, p⟩ fun h' eb => ⟨rfl, I.turned (t' := s.toks) (fun b o hb q => eb b o hb q) f0 f1 f3 f4 f5⟩
  self := fun A i s Q E st h => let ⟨⟨_, he⟩, _⟩ := st; wpAny_pyIter_enum he h
def iEnumT (K : PySem.W.Frag) (ta : TA) : TI := fun σ H R => ta σ H fun vs H1 => ∃ a xs, vs = [.ref a] ∧ SqT K H1 a xs ∧ R (IteT K a) H1
theorem pi_enumT {X : Cx} {e : Expr} {ta : TA} {p pos tpos : Pos} {elts : List Expr} {kk : Nat} (hg : Gl X "enumerate") (hm : X.mg "enumerate" = none) (ha : PA X [e] ta) (hs : starEach [e] X.env = [(false, eval e X.env)] := by rfl) :
    PI X (.Tuple elts kk tpos) (.Call (.Name "enumerate" p) [e] [] pos) (iEnumT X.K ta) := by
  refine ⟨fun pins s σ H R I h => ?_⟩
  refine Call_ (ld_blt I hg hm boot_enumerate (PyProof.Rows.callWith_type1 (thn (ha.run pos pins s σ H _ I h) fun us s1 ⟨vs, H1, I1, r1, q1⟩ => ?_) hs rfl))
  obtain ⟨a, xs, ex, hq, q⟩ := q1
  subst ex
  cases r1 with
  | cons r rr =>
    cases rr
    cases r
    obtain ⟨its, rv, p', hz⟩ := I1.tuple hq
    obtain ⟨oa, hoa, _⟩ := id p'
    have hal := Heap.lt_size hoa
    refine call_enumerate_begins (begins_tuple a its.toArray) p' fun h' he hit hsz hk => wpAny_pyIter_enum he ?_
    have I2 : Inv X pins σ H1 { s1 with heap := h' } := I1.kept (t' := s1.toks) hk
    refine ⟨s1.heap.objs.size + 1, [s1.heap.objs.size + 1, s1.heap.objs.size], _, _, H1, rfl, I2, turn_enumT a (s1.heap.objs.size + 1) s1.heap.objs.size, ⟨⟨.none, he⟩, ⟨_, hit, rfl, rfl⟩, Nat.succ_ne_self _, Nat.ne_of_lt (Nat.lt_succ_of_lt hal), Nat.ne_of_lt hal⟩, fun b hb => ?_, q⟩
    have e' : b = s1.heap.objs.size + 1 ∨ b = s1.heap.objs.size := by simpa using hb
    have hle : s1.heap.objs.size ≤ b := by
      rcases e' with z | z
      · rw [z]; exact Nat.le_add_right _ _
      · rw [z]; exact Nat.le_refl _
    exact I1.fpOk hle (I1.hok.fresh hle)
/-! ### zip(list, tuple) -/
def ItzM (K : PySem.W.Frag) (a b : Addr) : It :=
  ⟨fun i H => ∃ (xs ys : List V) (x y : V), SqL K H a xs ∧ SqT K H b ys ∧ xs[i]? = some x ∧ ys[i]? = some y,
    fun i H v H' => ∃ T x y, v = .ref T ∧ H T = none ∧ H' = upd H T (.tup [x, y]) ∧ (∀ xs, SqL K H a xs → xs[i]? = some x) ∧ ∀ ys, SqT K H b ys → ys[i]? = some y,
    fun i H => ∃ xs ys : List V, SqL K H a xs ∧ SqT K H b ys ∧ xs.length = i ∧ ys.length = i⟩
theorem turn_zipM {P : Program} {w : World} {K : PySem.W.Frag} {elts : List Expr} {kk : Nat} {tpos : Pos} {a b z TI TO i1 i2 : Addr} (D : ZipSep2 z TI TO i1 i2 [i1, a] [i2, b]) (na : a ≠ i1) (nb : b ≠ i2) (n12 : i1 ≠ i2) :
    Turn P w K (.Tuple elts kk tpos) (ItzM K a b) [z, TI, TO, i1, i2] z (fun i h => IsZip h z TI TO .none ∧ IsPair h TI (.ref i1) (.ref i2) ∧ (∃ x y, IsPair h TO x y) ∧ h.IsListIter i1 a i ∧ h.IsTupleIter i2 b i) where
  mem := by simp
  obj := fun i h st c hc => by
    obtain ⟨hz, hTI, ⟨x, y, hTO⟩, ⟨o1, e1, _, d1⟩, ⟨o2, e2, _, d2⟩⟩ := st
    have e' : c = z ∨ c = TI ∨ c = TO ∨ c = i1 ∨ c = i2 := by simpa using hc
    rcases e' with q | q | q | q | q
    · rw [q]; exact ⟨_, hz, fun v q => nomatch q⟩
    · rw [q]; exact ⟨_, hTI, fun v q => nomatch q⟩
    · rw [q]; exact ⟨_, hTO, fun v q => nomatch q⟩
    · rw [q]; exact ⟨o1, e1, fun v q => by rw [d1] at q; cases q⟩
    · rw [q]; exact ⟨o2, e2, fun v q => by rw [d2] at q; cases q⟩
  keep := fun i h h' st k => by
    obtain ⟨hz, hTI, ⟨x, y, hTO⟩, h1, h2⟩ := st
    exact ⟨k z (by simp) _ hz, k TI (by simp) _ hTI, ⟨x, y, k TO (by simp) _ hTO⟩, h1.at fun o q => k i1 (by simp) o q, h2.at fun o q => k i2 (by simp) o q⟩
  item := by
    intro X hP hw hK hc i pins s σ H E I hf st hg
    subst hP hw hK
    obtain ⟨hz, hTI, ⟨x0, y0, hTO⟩, h1, h2⟩ := st
    obtain ⟨xs, ys, x, y, hqx, hqy, hx, hy⟩ := hg
    obtain ⟨its, rv, p, _⟩ := I.list hqx
    obtain ⟨its2, rv2, p2, _⟩ := I.tuple hqy
    obtain ⟨u, hu, ru⟩ := rv.get hx
    obtain ⟨u2, hu2, ru2⟩ := rv2.get hy
    have hzl : z < s.heap.objs.size := Heap.lt_size hz
    have l1 : i < its.toArray.size := by simpa using (List.getElem?_eq_some_iff.mp hu).1
    have l2 : i < its2.toArray.size := by simpa using (List.getElem?_eq_some_iff.mp hu2).1
    refine wpAny_pyNext_zipD2_item D (Draws.list (A := X.A.in1) (I.ok.hd hc) i1 a na its.toArray) (Draws.tuple (A := X.A.in1) (I.ok.hd hc) i2 b nb its2.toArray) hz hTI hTO ⟨h1, p.isList⟩ ⟨h2, p2⟩ l1 l2 fun x1 x2 h' tk y1 y2 z' TO' h1' h2' hT hsz hk => ?_
    have ex1 : x1 = u := by
      have : its.toArray[i]? = some u := by simpa using hu
      rw [this] at y1
      exact (Option.some.inj y1).symm
    have ex2 : x2 = u2 := by
      have : its2.toArray[i]? = some u2 := by simpa using hu2
      rw [this] at y2
      exact (Option.some.inj y2).symm
    subst ex1 ex2
    refine ⟨_, rfl, wpAny_letOwnedTupleGo_zip (s := { s with heap := h', toks := tk }) z' fun h'' z'' sb => ?_⟩
    have hT2 : h''.get? s.heap.objs.size = some { cls := .type "tuple", data := .seq #[x1, x2] } := (sb.2 _ (Nat.ne_of_gt hzl)).trans hT
    have new : ObjOk X.prog X.w (upd H s.heap.objs.size (.tup [x, y])) h'' s.heap.objs.size (.tup [x, y]) :=
      ⟨by show 2 ≤ sizeLine; decide, [x1, x2], .cons ru (.cons ru2 .nil), ⟨_, hT2, rfl, _, rfl⟩⟩
    have I1 : Inv X pins σ (upd H s.heap.objs.size (.tup [x, y])) { s with heap := h'', toks := tk } :=
      I.turnedNew (ch := [z, TI, TO, i1, i2]) (fun c o hb q => (sb.2 c (fun q' => hb (by simp [q']))).trans (hk c o (fun q' => hb (by simp [q'])) (fun q' => hb (by simp [q'])) (fun q' => hb (by simp [q'])) (fun q' => hb (by simp [q'])) q)) hf (Nat.le_refl _) new
    refine ⟨.ref s.heap.objs.size, _, I1, rfl, ⟨_, x, y, rfl, I.hok.fresh (Nat.le_refl _), rfl, fun l hl => by rw [I.list_inj hl hqx]; exact hx, fun l hl => by rw [I.tuple_inj hl hqy]; exact hy⟩, ⟨z'', ?_, ⟨x1, x2, ?_⟩, ?_, ?_⟩, fun c hcm => ?_⟩
    · exact (sb.2 _ D.TIz).trans (hk _ _ D.TIz D.TITO D.TIi1 D.TIi2 hTI)
    · exact (sb.2 _ D.TOz).trans TO'
    · exact h1'.1.at fun o q => (sb.2 _ (fun e => D.zi1 e.symm)).trans q
    · exact h2'.1.at fun o q => (sb.2 _ (fun e => D.zi2 e.symm)).trans q
    · have hlt : c < s.heap.objs.size := by
        have e' : c = z ∨ c = TI ∨ c = TO ∨ c = i1 ∨ c = i2 := by simpa using hcm
        rcases e' with q | q | q | q | q
        · rw [q]; exact hzl
        · rw [q]; exact Heap.lt_size hTI
        · rw [q]; exact Heap.lt_size hTO
        · rw [q]; obtain ⟨_, e1, _⟩ := h1; exact Heap.lt_size e1
        · rw [q]; obtain ⟨_, e2, _⟩ := h2; exact Heap.lt_size e2
      rw [upd_ne (Nat.ne_of_lt hlt)]
      exact (hf c hcm).1
  done := by
    intro X hP hw hK hc i pins s σ H E I hf st hg
    subst hP hw hK
    obtain ⟨hz, hTI, ⟨x0, y0, hTO⟩, h1, h2⟩ := st
    obtain ⟨xs, ys, hqx, hqy, e1, e2⟩ := hg
    obtain ⟨its, rv, p, _⟩ := I.list hqx
    obtain ⟨its2, rv2, p2, _⟩ := I.tuple hqy
    have l1 := rv.length
    have l2 := rv2.length
    exact wpAny_pyNext_zipD2_end D (Draws.list (A := X.A.in1) (I.ok.hd hc) i1 a na its.toArray) (Draws.tuple (A := X.A.in1) (I.ok.hd hc) i2 b nb its2.toArray) hz hTI hTO ⟨h1, p.isList⟩ ⟨h2, p2⟩ (by simp; omega) (by simp; omega) (.inl (by simp; omega)) fun h' tk hk => ⟨rfl, I.turnedL (ch := [z, TI, TO, i1, i2]) (fun c o hb q =>
      hk c o (fun q' => hb (by simp [q'])) (fun q' => hb (by simp [q'])) (fun q' => hb (by simp [q'])) (fun q' => hb (by simp [q'])) q) hf⟩
  self := fun A i s Q E st h => wpAny_pyIter_zip st.1 h
def iZipM (K : PySem.W.Frag) (ta : TA) : TI := fun σ H R => ta σ H fun vs H1 => ∃ a b xs ys, vs = [.ref a, .ref b] ∧ SqL K H1 a xs ∧ SqT K H1 b ys ∧ R (ItzM K a b) H1
theorem pi_zipM {X : Cx} {e e2 : Expr} {ta : TA} {p pos tpos : Pos} {elts : List Expr} {kk : Nat} (hg : Gl X "zip") (hm : X.mg "zip" = none) (ha : PA X [e, e2] ta)
    (hs : starEach [e, e2] X.env = (false, eval e X.env) :: starEach [e2] X.env := by rfl) (hpl : (backTo pos (starEach [e2] X.env)).any (·.1) = false := by rfl) :
    PI X (.Tuple elts kk tpos) (.Call (.Name "zip" p) [e, e2] [] pos) (iZipM X.K ta) := by
  refine ⟨fun pins s σ H R I h => ?_⟩
  refine Call_ (ld_blt I hg hm PyProof.Rows.boot_zip (PyProof.Rows.callWith_type1 (thn (ha.run pos pins s σ H _ I h) fun us s1 ⟨vs, H1, I1, r1, q1⟩ => ?_) hs hpl))
  obtain ⟨a, b, xs, ys, ex, hqx, hqy, q⟩ := q1
  subst ex
  cases r1 with
  | cons r rr =>
    cases rr with
    | cons r' rr =>
      cases rr
      cases r
      cases r'
      have fresh5 : ∀ c, c ∈ [s1.heap.objs.size + 4, s1.heap.objs.size + 2, s1.heap.objs.size + 3, s1.heap.objs.size, s1.heap.objs.size + 1] → FpOk X pins H1 c := fun c hcm => by
        have e' : c = s1.heap.objs.size + 4 ∨ c = s1.heap.objs.size + 2 ∨ c = s1.heap.objs.size + 3 ∨ c = s1.heap.objs.size ∨ c = s1.heap.objs.size + 1 := by simpa using hcm
        have hle : s1.heap.objs.size ≤ c := by
          rcases e' with z | z | z | z | z
          · rw [z]; exact Nat.le_add_right _ _
          · rw [z]; exact Nat.le_add_right _ _
          · rw [z]; exact Nat.le_add_right _ _
          · rw [z]; exact Nat.le_refl _
          · rw [z]; exact Nat.le_add_right _ _
        exact I1.fpOk hle (I1.hok.fresh hle)
      obtain ⟨its, rv, p1, _⟩ := I1.list hqx
      obtain ⟨its2, rv2, p2, _⟩ := I1.tuple hqy
      obtain ⟨o2, ho2, _⟩ := id p2
      have la := p1.lt
      have lb := Heap.lt_size ho2
      refine zip_begins2 (begins_list a its.toArray) (begins_tuple b its2.toArray) p1.isList p2 fun h' hz hTI hTO h1 h2 hsz hk => wpAny_pyIter_zip hz ?_
      have I2 : Inv X pins σ H1 { s1 with heap := h' } := I1.kept (t' := s1.toks) hk
      exact ⟨s1.heap.objs.size + 4, [s1.heap.objs.size + 4, s1.heap.objs.size + 2, s1.heap.objs.size + 3, s1.heap.objs.size, s1.heap.objs.size + 1], _, _, H1, rfl, I2,
        turn_zipM (zip_sep2 (N := s1.heap.objs.size) (fp1 := [a]) (fp2 := [b]) (by simpa using la) (by simpa using lb)) (Nat.ne_of_lt la) (Nat.ne_of_lt (Nat.lt_succ_of_lt lb)) (Nat.ne_of_lt (Nat.lt_succ_self _)),
        ⟨hz, hTI, ⟨_, _, hTO⟩, ⟨_, h1, rfl, rfl⟩, ⟨_, h2, rfl, rfl⟩⟩, fresh5, q⟩
end Spf
end
section
set_option maxHeartbeats 4000000
/-! Own layer 14: sorted(rows, key=lambda row: row[0]). -/
namespace Spf
open PySem PySem.Spec PyProof.Rows L2 L2H HotX LamX
theorem _root_.L2.ExtN.rdX {H H' : Hp} {a : Addr} {o : HO} (e : ExtN H H') (h : Rd H a o) (n : ∀ ps, o ≠ .tbl ps) : Rd H' a o := by
  rcases h with h | ⟨u, h⟩
  · exact .inl (e _ _ h n)
  · exact .inr ⟨u, e _ _ h fun ps z => by cases z⟩
theorem extN_seq {H H' : Hp} {K : PySem.W.Frag} {a : Addr} {xs : List V} (e : ExtN H H') (h : SqL K H a xs) : SqL K H' a xs := by
  rcases h with h | h
  · exact .inl (L2.ExtN.rdX e h fun _ z => by cases z)
  · exact .inr h
theorem extN_seqT {H H' : Hp} {K : PySem.W.Frag} {a : Addr} {xs : List V} (e : ExtN H H') (h : SqT K H a xs) : SqT K H' a xs := by
  rcases h with h | h
  · exact .inl (L2.ExtN.rdX e h fun _ z => by cases z)
  · exact .inr h
theorem ns_only1 {h : Heap} {L : Addr} {m m' : Str → Option Value} (x : h.Ns L m) (y : h.Ns L m') : m = m' := by
  obtain ⟨o, es, ep, e, d, _, f⟩ := x
  obtain ⟨o', es', ep', e', d', _, f'⟩ := y
  rw [e] at e'
  cases e'
  rw [d] at d'
  cases d'
  funext n
  rw [← f n, ← f' n]
theorem obj_at {P : Program} {w : World} {H : Hp} {h : Heap} {a : Addr} {o : HO} (x : ObjOk P w H h a o) : ∃ u, h.get? a = some u := by
  cases o with
  | lst xs => obtain ⟨_, _, _, _, e⟩ := x; exact ⟨_, e⟩
  | tup xs => obtain ⟨_, _, _, _, e, _⟩ := x; exact ⟨_, e⟩
  | dK kvs => obtain ⟨_, _, _, _, o, _, _, e, _⟩ := x; exact ⟨_, e⟩
  | dT kvs => obtain ⟨_, _, _, _, o, _, _, e, _⟩ := x; exact ⟨_, e⟩
  | set S n => obtain ⟨o, _, _, _, e, _⟩ := x; exact ⟨_, e⟩
  | ins C dx fs => obtain ⟨_, _, _, e, _⟩ := x; exact ⟨_, e⟩
  | own y => obtain ⟨_, e⟩ := x; exact ⟨_, e⟩
  | xd fs => obtain ⟨_, ⟨_, _, _, e, _⟩, _⟩ := x; exact ⟨_, e⟩
  | rng lo hi => obtain ⟨_, _, _, e⟩ := x; exact ⟨_, e⟩
  | frz ob u => obtain ⟨e, _⟩ := x; exact ⟨_, e⟩
  | tbl ps => exact ⟨_, show h.get? a = some _ from x⟩
  | met f y => exact ⟨_, show h.get? a = some _ from x⟩
  | ext φ => obtain ⟨_, ⟨_, e⟩, _⟩ := x; exact ⟨_, e⟩
theorem hok_free {P : Program} {w : World} {H : Hp} {h : Heap} {a : Addr} (k : HOk P w H h) (e : h.get? a = none) : H a = none := by
  cases q : H a with
  | none => rfl
  | some o =>
    obtain ⟨u, hu⟩ := obj_at (k a o q)
    rw [e] at hu
    cases hu
/-- a new object is tracked; the frame's own object is kept by its names -/
theorem laidL {X : Cx} {pins : List (Addr × Obj)} {σ : L2.St} {H : Hp} {s : Shared} {h' : Heap} {D : Addr} {o : HO} {t' : Nat} (I : Inv X pins σ H s) (k : ∀ b u, b ≠ X.env.locals → s.heap.get? b = some u → h'.get? b = some u)
    (ns : ∀ m, s.heap.Ns X.env.locals m → h'.Ns X.env.locals m) (hp : s.heap.get? D = none) (hm : ∀ ps, o ≠ .tbl ps) (new : ObjOk X.prog X.w (upd H D o) h' D o) : Inv X pins σ (upd H D o) { s with heap := h', toks := t' } := by
  have hn := hok_free I.hok hp
  have nD : ∀ b u, H b = some u → b ≠ D := fun b u e => ne_of_none e hn
  have up : ∀ b, b ≠ D → upd H D o b = H b := fun b h => upd_ne h
  refine I.step (g' := s.gens) (d' := s.drawn) (ch := []) (fun _ z => nomatch z) (fun b o hb _ _ q _ => k b o hb q) (fun b o hb _ _ q _ => ⟨o.slots, k b o hb q⟩)
    (fun b u _ q z => ?_) (fun b u _ q => ?_) (fun b xs q => by rw [up b (nD _ _ q)]; exact q) (fun b o u q => by rw [up b (nD _ _ q)]; exact q)
    (fun b ps q => ⟨#[], by rw [up b (nD _ _ q)]; simpa using q⟩) ns (fun b u q => ?_) I.bare
  · have : b ≠ D := fun e => by
      rw [e, hp] at q
      cases q
    rw [up b this]
    exact z
  · by_cases h1 : b = X.env.locals
    · obtain ⟨m, hn, _⟩ := I.loc
      obtain ⟨o', _, _, e', _⟩ := ns m hn
      exact ⟨o', by rw [h1]; exact e'⟩
    · exact ⟨u, k b u h1 q⟩
  · by_cases hb : b = D
    · subst hb
      rw [upd_same] at q
      cases q
      exact new
    · rw [up b hb] at q
      refine (I.hok b u q).stay (fun c v hc e => k c v (fun z => ?_) e) (fun c e => by rw [up c (nD _ _ e)]; exact e) fun c xs e => by rw [up c (nD _ _ e)]; exact e
      rcases hc with hc | hc
      · rw [hc] at z
        rw [z, I.free] at q
        cases q
      · rw [z, I.free] at hc
        cases hc
/-- the scope of a lambda of one name -/
def lamS (x : Str) : Scope := { kind := .function, names := [(x, .local)], isGenerator := false, isCoroutine := false }
section
variable {prog : Program} {w : World} {A : Around} {s : Shared} {E : Value → Shared → Prop}
/-- the lambda's call at a row -/
theorem lam_first {qual x : Str} {params : Arguments} {f c' p : Addr} {pm ctv : Value} {cl : List (Str × Addr)} {its : Array Value} {v : Value} {p1 p2 p3 : Pos} {k : Nat} {oc : Obj} {vs : Array Value} {t : Tok} {Q : Value → Shared → Prop} (hroom : A.depth < recursionLimit)
    (hf : s.heap.get? f = some (PySem.W.kla_obj "<lambda>" qual params (.Subscript (.Name x p1) (.Constant (.int 0) k p2) p3) (lamS x) cl pm c' ctv)) (hoc : s.heap.get? c' = some oc) (hdc : oc.data = .fields vs) (hvc : vs[1]? = some (.str qual t)) (lim : s.heap.NoLimit)
    (hbind : ∀ u : Value, bindArgs (PySem.W.kla_fn "<lambda>" qual params (.Subscript (.Name x p1) (.Constant (.int 0) k p2) p3) (lamS x) cl pm (.ref c') ctv) ⟨[u], []⟩ = pure [(x, u)]) (hdb : (x == ("__debug__" : Str)) = false)
    (hp : IsTup s.heap p its) (hv : its[0]? = some v) (hz : its.size < 2 ^ 63) (hQ : ∀ h' tk, (∀ b o, s.heap.get? b = some o → h'.get? b = some o) → Q v { s with heap := h', toks := tk }) :
    wpAny (model prog w) A (call (.ref f) [.ref p]) Q E s := by
  refine wpAny_call ?_
  refine PySem.W.kla_callFunE hroom hf rfl rfl rfl rfl ⟨c', oc, vs, t, rfl, hoc, hdc, hvc⟩ ?_
  rw [hbind]
  refine wpAny_pure (wpAny_newFunctionEnv (fun y hy => ?_) (fun y hy => ?_) (fun h₁ hns hsb => ⟨lim.fresh _ hsb, ?_⟩) rfl)
  · have : y = (x, .local) := by simpa [lamS] using hy
    rw [this]
    exact fun z => by cases z
  · have : y = (x, .ref p) := by simpa using hy
    rw [this]
    simp [lamS]
  have kp : ∀ b o, s.heap.get? b = some o → h₁.get? b = some o := fun b o e => hsb.extBut b o (Nat.ne_of_lt (Heap.lt_size e)) (Heap.get?_push_of_some _ e)
  refine PySem.W.kla_codeExpr ?_
  refine Subscript_Constant (wpAny_Name (wpAny_loadName_local rfl ?_ hns (v := .ref p) ?_ ?_) hdb)
  · show List.lookup x [(x, NameKind.local)] = _
    simp [List.lookup]
  · show List.lookup x ([(x, Value.ref p)] : List (Str × Value)).reverse = _
    simp [List.lookup]
  · refine wpAny_Constant_int ?_
    obtain ⟨o, e, r⟩ := hp
    have hp1 : IsTup h₁ p its := ⟨o, kp _ _ e, r⟩
    exact ⟨"tuple", _, slot_tuple_getitem.lookup, hp1.typeIs, getItem_tuple (j := 0) (s := { s with heap := h₁, toks := _ }) hp1 (by decide) (by decide) (seqIndex_of (Int.le_refl 0) (by
      have hl : 0 < its.size := (Array.getElem?_eq_some_iff.mp hv).1
      omega)) hv (hQ h₁ _ kp)⟩
end
theorem each_of {bs : List (Addr × Str)} : ∀ {its : List Value}, Vals (bs.map fun b => V.ref b.1) its → PySem.W.EachIs (fun v (b : Addr × Str) => v = .ref b.1) its bs := by
  induction bs with
  | nil => intro its r; cases r; exact .nil
  | cons b bs ih => intro its r; cases r with
    | cons h r => exact .cons h (ih r)
theorem of_each {bs : List (Addr × Str)} : ∀ {its : List Value}, PySem.W.EachIs (fun v (b : Addr × Str) => v = .ref b.1) its bs → Vals (bs.map fun b => V.ref b.1) its := by
  induction bs with
  | nil => intro its r; cases r; exact .nil
  | cons b bs ih => intro its r; cases r with
    | cons h r => exact .cons h (ih r)
def rowSort (bs : List (Addr × Str)) : List (Addr × Str) := bs.mergeSort fun a b => decide (a.2.cps.toList ≤ b.2.cps.toList)
/-- sorted(e, key=lambda row: row[0]) of rows whose first items are texts -/
def tSortK (K : PySem.W.Frag) (T : List (Addr × Str)) (te : TE) : TE := fun σ H Q => te σ H fun x H1 => Tabs T H1 ∧ ∃ (a : Addr) (bs : List (Addr × Str)), x = .ref a ∧ SqL K H1 a (bs.map fun b => V.ref b.1) ∧ bs.length ≤ 1000 ∧ (∀ b ∈ bs, ∃ v, SqT K H1 b.1 [.str b.2, v]) ∧
  ∀ (D : Addr) (H2 : Hp), ExtN H1 H2 → Tabs T H2 → H2 D = none → Q (.ref D) (upd H2 D (.lst ((rowSort bs).map fun b => V.ref b.1)))
theorem pe_sortK {X : Cx} {T : List (Addr × Str)} {g : Bool} {kk : Nat} {p0 : Addr × Obj} {c P : Addr} {e : Expr} {te : TE} {x0 : Str} {params : Arguments} {k : Nat} {q p1 p2 p3 lpos kpos pos : Pos} (he : PE X e te) (ct : Cxt X g false (kk + 2) p0) (hg : Gl X "sorted") (hm : X.mg "sorted" = none)
    (TB : TabB X.base X.mg c P) (hcode : X.env.code = .ref c) (hmT : (P, X.env.qual ++ "<lambda>") ∈ T) (hu : ∀ p ∈ T, p.1 = P → p.2 = X.env.qual ++ "<lambda>") (hdef : defaultsOf params X.env = ([], []))
    (hbind : ∀ (qq : Str) (cl : List (Str × Addr)) (pm cv ctv : Value) (u : Value), bindArgs (PySem.W.kla_fn "<lambda>" qq params (.Subscript (.Name x0 p1) (.Constant (.int 0) k p2) p3) (lamS x0) cl pm cv ctv) ⟨[u], []⟩ = pure [(x0, u)]) (hdb : (x0 == ("__debug__" : Str)) = false)
    (hpe : backTo pos (starEach [e] X.env) = (false, eval e X.env) :: backTo pos (starEach [] X.env) := by rfl) (hpl : (backTo pos (starEach [e] X.env)).any (·.1) = false := by rfl)
    (hse : starEach [e] X.env = (false, eval e X.env) :: starEach [] X.env := by rfl) :
    PE X (.Call (.Name "sorted" q) [e] [⟨some "key", .Lambda params (.Subscript (.Name x0 p1) (.Constant (.int 0) k p2) p3) (lamS x0) lpos, kpos⟩] pos) (tSortK X.K T te) := by
  refine ⟨fun pins s σ H Q I h => ?_⟩
  refine wpAny_Call_Name_kw (ld_blt I hg hm PyProof.Rows.boot_sorted ?_)
  refine PyProof.Rows.callWith_kw (thn ((pa_cons he pa_nil hse).run pos pins s σ H (fun vs H1 => match vs with
    | [x] => Tabs T H1 ∧ ∃ (a : Addr) (bs : List (Addr × Str)), x = .ref a ∧ SqL X.K H1 a (bs.map fun b => V.ref b.1) ∧ bs.length ≤ 1000 ∧ (∀ b ∈ bs, ∃ v, SqT X.K H1 b.1 [.str b.2, v]) ∧
      ∀ (D : Addr) (H2 : Hp), ExtN H1 H2 → Tabs T H2 → H2 D = none → Q (.ref D) (upd H2 D (.lst ((rowSort bs).map fun b => V.ref b.1)))
    | _ => False) I h) fun us s1 ⟨vs, H1, I1, r1, q1⟩ => ?_) hpe hpl (by rfl) (by rfl)
  match vs, q1, r1 with
  | [x], q1, r1 =>
  obtain ⟨hT, a, bs, rfl, hsq, hlen, hrow, q⟩ := q1
  obtain rfl := Vals.ref1 r1
  show wpAny _ _ (evalAll ((do let v ← eval (.Lambda params (.Subscript (.Name x0 p1) (.Constant (.int 0) k p2) p3) (lamS x0) lpos) X.env; standAt pos; pure v) :: [])) _ _ s1
  refine wpAny_evalAll_cons (wpAny_bind (lam_make2 I1 TB hcode hmT hu hT hdef (fun y hy hf => ?_) fun f c' pm' ctv H2 s2 I2 eN T2 hf hfn hfr hco => wpAny_bind (wpAny_standAt (wpAny_pure (wpAny_evalAll_nil ?_)))))
  · have : y = (x0, .local) := by simpa [lamS] using hy
    rw [this] at hf
    cases hf
  have hsq2 := extN_seq eN hsq
  obtain ⟨its, rv, pl, hz⟩ := I2.list hsq2
  obtain ⟨m, F⟩ := I2.fr
  have keepAll : ∀ {h : Heap} {own : List (Addr × Obj)}, Fr X.base X.env.locals h m → News X.base X.env.locals h (allNews X.base s2.heap X.env.locals ++ own) → ∀ b o, b ≠ X.env.locals → s2.heap.get? b = some o → h.get? b = some o := fun {h own} F' N' b o hb e => by
    cases q : X.base.get? b with
    | some u =>
      have := I2.bk b u q
      rw [e] at this
      cases this
      exact F'.keep b _ q
    | none => exact (N' (b, o) (List.mem_append_left _ (mem_allNews hb q e))).1
  have hrm := (ct.rm.in1).room
  have locNe : ∀ (b : Addr) (o : Obj), s2.heap.get? b = some o → (∀ es ep, o.data ≠ .dict es ep) → b ≠ X.env.locals := fun b o e hd z => by
    obtain ⟨o', es, ep, e', hd', _⟩ := F.ns
    rw [z] at e
    rw [e] at e'
    cases e'
    exact hd _ _ hd'
  have fL : f ≠ X.env.locals := locNe f _ hf fun es ep z => by cases z
  have cL : c' ≠ X.env.locals := fun z => by rw [z, I2.free] at hco; cases hco
  obtain ⟨⟨oc, vsc, t, hoc, hdc, hvc⟩, _, _⟩ := I2.hok c' _ hco
  refine PySem.W.sorted_key_data_frame (R := fun v (b : Addr × Str) => v = .ref b.1) (fun b : Addr × Str => PyData.str b.2) F news_all pl.isList (each_of rv) (PySem.W.AllAlike.of fun b b' => rfl) (PySem.W.Sortable.others fun b => ⟨(fun z => by cases z), fun xs z => by cases z⟩) (by rw [sizeLine_eq]; omega)
    (fun x _ => by show X.A.units + 2 + 0 < cLine; have := ct.rm.units; omega) (PyProof.Rows.ksk_s1 _ _) (fun _ => PyProof.Rows.ksk_l1 _ _) (fun x => PyProof.Rows.ksk_t1 f x) (fun v b ev hb h tk own F' N' => ?_) (fun D out c2 h' tk F' N' hD _ eo => ?_)
  · subst ev
    have kA := keepAll F' N'
    obtain ⟨v0, hr⟩ := hrow b hb
    obtain ⟨its1, rv1, pl1, hz1⟩ := I2.tuple (extN_seqT eN hr)
    cases rv1 with
    | cons h1 r1 =>
    rename_i u us
    obtain ⟨tt, rfl⟩ := h1
    obtain ⟨op, hop, r⟩ := pl1
    have pL : b.1 ≠ X.env.locals := locNe b.1 _ hop fun es ep z => by
      obtain ⟨n, hn⟩ := r.2
      rw [hn] at z
      cases z
    have hd2 : (2 : Nat) ≤ 2 := Nat.le_refl _
    have N2 : ∀ h2 : Heap, (∀ b o, h.get? b = some o → h2.get? b = some o) → News X.base X.env.locals h2 ((allNews X.base s2.heap X.env.locals ++ own) ++ []) := fun h2 kp => by
      rw [List.append_nil]
      exact fun p hp => ⟨kp _ _ (N' p hp).1, (N' p hp).2⟩
    have F2 : ∀ h2 : Heap, (∀ b o, h.get? b = some o → h2.get? b = some o) → Fr X.base X.env.locals h2 m := fun h2 kp => ⟨by
      obtain ⟨o', es, ep, e', r'⟩ := F'.ns
      exact ⟨o', es, ep, kp _ _ e', r'⟩, fun b o e => kp _ _ (F'.keep b o e), F'.above⟩
    have hroom : X.A.in1.in1.depth < recursionLimit := ct.rm.in1.in1.room.depth
    refine lam_first (s := { s2 with heap := h, toks := tk }) (qual := X.env.qual ++ "<lambda>") hroom (kA _ _ fL hf) (kA _ _ cL hoc) hdc hvc (I2.mod.nolimit.keeps F'.keep) (hbind _ _ _ _ _) hdb ⟨op, kA _ _ pL hop, r⟩ (v := .str b.2 tt) rfl ?_ fun h2 tk2 kp => ⟨h2, tk2, [], rfl, PySem.W.KeyIs.str _ _, (fun p hp => nomatch hp), F2 h2 kp, N2 h2 kp⟩
    have hul : us.length = 1 := by rw [← r1.length]; rfl
    show ((Value.str b.2 tt :: us).toArray).size < 2 ^ 63
    rw [List.size_toArray, List.length_cons, hul]
    decide
  · have hD0 : s2.heap.get? D = none := by
      obtain ⟨_, hDL, hDb⟩ := N' (D, PySem.W.listOf (List.toArray out) c2) List.mem_cons_self
      cases hs : s2.heap.get? D with
      | none => rfl
      | some o => exact absurd (hD (D, o) (mem_allNews hDL hDb hs)) (Nat.lt_irrefl _)
    have keep' : ∀ b u, b ≠ X.env.locals → s2.heap.get? b = some u → h'.get? b = some u := fun b o hb e => by
      cases q : X.base.get? b with
      | some u =>
        have := I2.bk b u q
        rw [e] at this
        cases this
        exact F'.keep b _ q
      | none => exact (N' (b, o) (List.mem_cons_of_mem _ (mem_allNews hb q e))).1
    have hobj := (N' (D, PySem.W.listOf (List.toArray out) c2) List.mem_cons_self).1
    have eo' : PySem.W.EachIs (fun v (b : Addr × Str) => v = .ref b.1) out (rowSort bs) := by
      have := eo
      rw [PySem.W.dataLe_str] at this
      exact this
    have rvo := of_each eo'
    have hlo : ((rowSort bs).map fun b => V.ref b.1).length ≤ sizeLine := by
      rw [List.length_map, rowSort, List.length_mergeSort, sizeLine_eq]
      omega
    have ob : ObjOk X.prog X.w (upd H2 D (.lst ((rowSort bs).map fun b => V.ref b.1))) h' D (.lst ((rowSort bs).map fun b => V.ref b.1)) := ⟨hlo, out, c2, rvo, hobj⟩
    refine ⟨.ref D, _, laidL (t' := tk) I2 keep' (fun m' hm' => ?_) hD0 (fun ps z => by cases z) ob, rfl, q D H2 eN T2 (hok_free I2.hok hD0)⟩
    rw [ns_only1 hm' F.ns]
    exact F'.ns
end Spf
end
section
set_option maxHeartbeats 4000000
/-! Own layer 15: sorted(dict of texts) in both modes. -/
namespace Spf
open PySem PySem.Spec PyProof.Rows L2 L2H HotX LamX
section
variable {prog : Program} {w : World} {Ky : Type} [DecidableEq Ky] {knd : KeyKind prog w Ky} {A : Around} {E : Value → Shared → Prop} {s : Shared}
theorem EndOk.iter {h h' : Heap} {I d : Addr} {i n ep : Nat} (x : EndOk A h) (hit : h.IsKeyIter I d i n ep) (k : ∀ b o, b ≠ I → h.get? b = some o → h'.get? b = some o) : EndOk A h' := by
  obtain ⟨o, ho, hc, hd⟩ := id hit
  refine x.kept fun x1 o1 vs _ e1 d1 c1 => k x1 o1 (fun z => ?_) e1
  rw [z, ho] at e1; cases e1; rw [hd] at d1; cases d1; simp at c1
theorem walkKeys (x : Addr) (hk : ∀ h h' : Heap, EndOk A h → (∀ o, h.get? x = some o → h'.get? x = some o) → EndOk A h') (I d : Addr) (hne : d ≠ I) (kvs : List (Ky × Value)) (ep : Nat) :
    Walks prog w A I [I, d, x] [I] kvs.length (fun i v => ∃ k x, kvs[i]? = some (k, x) ∧ knd.is k v = true) (fun i h => h.IsKeyIter I d i kvs.length ep ∧ h.DictAt knd d kvs ep ∧ EndOk A h) where
  sub := fun b hb => by simp at hb; simp [hb]
  frame := fun _ _ _ st hkk => ⟨st.1.at fun o e => hkk I (by simp) o e, st.2.1.at' fun o e => hkk d (by simp) o e, hk _ _ st.2.2 fun o e => hkk x (by simp) o e⟩
  item := fun i s Q E hi st hQ => by
    obtain ⟨⟨k, x⟩, hx⟩ : ∃ p, kvs[i]? = some p := ⟨kvs[i], by simp [hi]⟩
    refine wpAny_pyNext_dict_item st.1 st.2.1 hx fun key h' hkey hit' hs' => ?_
    exact hQ key h' s.toks ⟨k, x, hx, hkey⟩ ⟨hit', st.2.1.extBut hs'.extBut hne, st.2.2.iter st.1 fun b o hb e => hs'.extBut b o hb e⟩ fun b o hb e => hs'.extBut b o (fun h => hb (by simp [h])) e
  done := fun s Q E st hQ => by
    obtain ⟨od, es, hod, hcd, hdd, hk, hp, hn⟩ := id st.2.1
    exact keys_end_any st.2.2 st.1 hod hdd (by have := hp.length; rw [Array.length_toList] at this; exact this) (Nat.le_refl _) fun h' he' => hQ h' s.toks fun b o hb e => he' b o (fun h => hb (by simp [h])) e
  self := fun _ _ _ _ st hQ => wpAny_pyIter_keyiter st.1 hQ
theorem extendD {R : Result → Shared → Prop} {d x : Addr} {kvs : List (Ky × Value)} {ep : Nat} (hk0 : ∀ h h' : Heap, EndOk A h → (∀ o, h.get? x = some o → h'.get? x = some o) → EndOk A h') (lo : (d == sysModules) = false) (hx : x < s.heap.objs.size) (ho : EndOk A s.heap) (hok : s.heap.DictAt knd d kvs ep)
    (S : Addr) (hSd : S ≠ d) (hSx : S ≠ x) (res : Value) (c₀ : Nat) (hS : s.heap.get? S = some { cls := .type "list", data := .seq #[] c₀ })
    (hR : ∀ h' tk acc' c', (∀ b o, b ≠ S → s.heap.get? b = some o → h'.get? b = some o) → h'.get? S = some { cls := .type "list", dict := none, data := .seq acc' c', slots := #[] } → ItemsOf (fun i v => ∃ k x, kvs[i]? = some (k, x) ∧ knd.is k v = true) acc' kvs.length → R (.ok (.ret res)) { s with heap := h', toks := tk }) (hn : kvs.length ≤ sizeLine) :
    wpAny (model prog w) A.in1 (Builtin.List.listExtendWith (.ref S) (.ref d) res)
      (fun fin s' => match fin with | .done f => R (.ok f) s' | .again c' => c'.quiet = true ∧ codeAny (model prog w) A c' R s') (fun e s' => R (.error e) s') s := by
  have hSI : S ≠ s.heap.objs.size := Nat.ne_of_lt (Heap.lt_size hS)
  have hSf : S ∉ [s.heap.objs.size, d, x] := by simp only [List.mem_cons, List.not_mem_nil, or_false, not_or]; exact ⟨hSI, hSd, hSx⟩
  have W := walkKeys (prog := prog) (w := w) (knd := knd) (A := A.in1) x (fun h h' a b => hk0 h h' a b) s.heap.objs.size d (Nat.ne_of_lt hok.lt_size) kvs ep
  have key : ∀ (h : Heap) (c₁ tk : Nat), (h.IsKeyIter s.heap.objs.size d 0 kvs.length ep ∧ h.DictAt knd d kvs ep ∧ EndOk A.in1 h) → (∀ b o, b ≠ S → s.heap.get? b = some o → h.get? b = some o) →
      h.get? S = some { cls := .type "list", data := .seq #[] c₁ } → codeAny (model prog w) A (.builtin "list.extend.loop" ⟨[.ref S, .ref s.heap.objs.size, res], []⟩) R { s with heap := h, toks := tk } := by
    intro h c₁ tk hst hk hS₁
    refine codeAny_extend_loopS W.toS hn S hSf res kvs.length 0 _ #[] c₁ rfl (Nat.zero_le _) hst hS₁ (ItemsOf.nil _) fun s' acc' c' hm hS' hacc => ?_
    rw [Moved.eq_with hm]
    refine hR s'.heap s'.toks acc' c' (fun b o hb e => hm.heap b o (fun hmem => ?_) (hk b o hb e)) hS' hacc
    rcases List.mem_cons.mp hmem with e' | hmem
    · exact hb e'
    · exact absurd (Heap.lt_size e) (by rw [List.mem_singleton.mp hmem]; exact Nat.lt_irrefl _)
  unfold Builtin.List.listExtendWith
  refine wpAny_bind (wpAny_typeOf (T := "dict") hok.dictOf.typeIs ?_)
  have h1 : Builtin.List.listSameRef (.ref S) (.ref d) = false := by simp [Builtin.List.listSameRef, hSd]
  have n1 : (Value.type "dict" == Value.type "list") = false := by decide
  have n2 : (Value.type "dict" == Value.type "tuple") = false := by decide
  simp only [h1, n1, n2, Bool.or_false, Bool.false_eq_true, if_false]
  refine wpAny_bind (wpAny_pyIter_dict lo hok ?_)
  have st0 : (s.heap.push { cls := .type "dict_keyiterator", data := .fields #[.ref d, .int 0 0, .int kvs.length 0, .int ep 0] }).IsKeyIter s.heap.objs.size d 0 kvs.length ep ∧ (s.heap.push { cls := .type "dict_keyiterator", data := .fields #[.ref d, .int 0 0, .int kvs.length 0, .int ep 0] }).DictAt knd d kvs ep ∧ EndOk A.in1 (s.heap.push { cls := .type "dict_keyiterator", data := .fields #[.ref d, .int 0 0, .int kvs.length 0, .int ep 0] }) :=
    ⟨⟨_, Heap.get?_push_size _ rfl, rfl, rfl⟩, hok.push _, ho.push _⟩
  generalize ({ cls := .type "dict_keyiterator", data := .fields #[.ref d, .int 0 0, .int kvs.length 0, .int ep 0] } : Obj) = oI at st0 ⊢
  have hS₁ := Heap.get?_push_of_some oI hS
  refine wpAny_bind (wpAny_holding (PySem.W.kdl_hint_dict (st0.2.1.dictOf.typeIs (s := { s with heap := s.heap.push oI })) ?_))
  refine wpAny_ite_split (fun _ => ?_) (fun _ => wpAny_pure ⟨plainId_quiet PySem.F.plain_extend_loop _, key _ c₀ _ st0 (fun b o _ e => Heap.get?_push_of_some _ e) hS₁⟩)
  refine wpAny_bind (wpAny_rule ?_)
  refine wpAny_bind ?_
  show wpAny _ _ (updateSeq S (·.push .none) >>= fun _ => updateSeq S (·.pop)) _ _ _
  refine wpAny_bind (wpAny_updateSeq hS₁ rfl ?_)
  have hS₂ := Heap.get?_update_self (Obj.mapSeq (·.push Value.none)) hS₁ rfl
  refine wpAny_updateSeq (hz := by seq_fits) hS₂ rfl ?_
  have hS₃ := Heap.get?_update_self (Obj.mapSeq (·.pop)) hS₂ rfl
  refine wpAny_pure ⟨plainId_quiet PySem.F.plain_extend_loop _, key _ _ _ ?_ (fun b o hb e => ?_) hS₃⟩
  · refine W.frame 0 _ _ st0 fun b hb o e => ?_
    have hbS : b ≠ S := fun h => hSf (h ▸ hb)
    exact (Heap.get?_update_other _ _ (Ne.symm hbS)).trans ((Heap.get?_update_other _ _ (Ne.symm hbS)).trans e)
  · exact (Heap.get?_update_other _ _ (Ne.symm hb)).trans ((Heap.get?_update_other _ _ (Ne.symm hb)).trans (Heap.get?_push_of_some _ e))
theorem collectD {R : List Value → Shared → Prop} {d x : Addr} {kvs : List (Ky × Value)} {ep : Nat} (hk0 : ∀ h h' : Heap, EndOk A h → (∀ o, h.get? x = some o → h'.get? x = some o) → EndOk A h') (lo : (d == sysModules) = false) (hx : x < s.heap.objs.size) (ho : EndOk A s.heap) (hok : s.heap.DictAt knd d kvs ep) (hn : kvs.length ≤ sizeLine)
    (h : ∀ (h' : Heap) (tk : Nat) (acc : Array Value), (∀ b o, s.heap.get? b = some o → h'.get? b = some o) → ItemsOf (fun i v => ∃ k x, kvs[i]? = some (k, x) ∧ knd.is k v = true) acc kvs.length → R acc.toList { s with heap := h', toks := tk }) :
    wpAny (model prog w) A (collect (.ref d)) R E s := by
  have hlt := hok.lt_size
  unfold collect
  refine wpAny_bind (wpAny_runValue (codeAny_builtin entry_proto_collect' ?_))
  rw [Around.under_plainId PySem.F.plain_proto_collect _]
  show wpAny _ A.in1 (newList [] >>= fun l => again (.builtin "list.__iadd__" ⟨[l, .ref d], []⟩)) _ _ s
  refine wpAny_bind (wpAny_newObj_type ?_)
  refine wpAny_pure ⟨plainId_quiet PySem.F.plain_list_iadd _, codeAny_builtin entry_list_iadd' ?_⟩
  rw [Around.under_plainId PySem.F.plain_list_iadd _]
  have hS₁ : (s.heap.push { cls := .type "list", data := .seq ([] : List Value).toArray }).get? s.heap.objs.size = some { cls := .type "list", data := .seq #[] } := Heap.get?_push_size _ rfl
  show wpAny _ A.in1 (Builtin.List.listExtendWith (.ref s.heap.objs.size) (.ref d) (.ref s.heap.objs.size)) _ _ _
  have key := extendD (A := A) (s := { s with heap := s.heap.push { cls := .type "list", data := .seq ([] : List Value).toArray } })
    (R := fun (q : Result) (s' : Shared) => ∃ (h' : Heap) (tk : Nat) (acc' : Array Value) (c' : Nat), q = .ok (.ret (.ref s.heap.objs.size)) ∧ s' = { s with heap := h', toks := tk } ∧
      (∀ b o, s.heap.get? b = some o → h'.get? b = some o) ∧ h'.get? s.heap.objs.size = some { cls := .type "list", dict := none, data := .seq acc' c', slots := #[] } ∧ ItemsOf (fun i v => ∃ k x, kvs[i]? = some (k, x) ∧ knd.is k v = true) acc' kvs.length)
    hk0 lo (by show x < (s.heap.push _).objs.size; rw [Heap.size_push]; exact Nat.lt_succ_of_lt hx) (ho.push _) (hok.push _) s.heap.objs.size (Nat.ne_of_gt hlt) (Nat.ne_of_gt hx) (.ref s.heap.objs.size) 0 hS₁
    (fun h' tk acc' c' hk hS' hacc => ⟨h', tk, acc', c', rfl, rfl, fun b o e => hk b o (Nat.ne_of_lt (Heap.lt_size e)) (Heap.get?_push_of_some _ e), hS', hacc⟩) hn
  refine wpAny_mono key (fun fin s' x => ?_) fun e s' x => ?_
  · cases fin with
    | done f =>
      obtain ⟨h', tk, acc', c', e, rfl, hk, hS', hacc⟩ := x
      cases e
      show wpAny _ A (load s.heap.objs.size >>= _) _ _ _
      refine wpAny_bind (wpAny_load hS' ?_)
      exact wpAny_pure (h h' tk acc' hk hacc)
    | again c₁ =>
      refine ⟨x.1, codeAny_mono x.2 fun q s₂ y => ?_⟩
      obtain ⟨h', tk, acc', c', rfl, rfl, hk, hS', hacc⟩ := y
      show wpAny _ A (load s.heap.objs.size >>= _) _ _ _
      refine wpAny_bind (wpAny_load hS' ?_)
      exact wpAny_pure (h h' tk acc' hk hacc)
  · obtain ⟨_, _, _, _, e', _⟩ := x
    cases e'
theorem EndOk.pt {hp : Heap} {d : Addr} (h : EndOk A hp) (hd : d < hp.objs.size) : ∃ x, x < hp.objs.size ∧ EndOk A hp ∧ ∀ h h' : Heap, EndOk A h → (∀ o, h.get? x = some o → h'.get? x = some o) → EndOk A h' := by
  rcases id h with e | ⟨x1, hh, o, vs, e, dd, c⟩
  · exact ⟨d, hd, h, fun _ _ _ _ => .inl e⟩
  · refine ⟨x1, Heap.lt_size e, h, fun h1 h2 a k => a.kept fun x2 o2 vs2 hh2 e2 _ _ => ?_⟩
    rw [hh] at hh2
    cases hh2
    exact k _ e2
end
section
variable {X : Cx}
/-- sorted(d) of a dict with fewer than 64 keys, all texts; both modes -/
theorem call_sortedDX (hm : Md X) : CallR X (.builtin "sorted") (fun xs H Q => ∃ (a : Addr) (kvs : List (Key × V)) (ks : List Str), xs = [.ref a] ∧ Rd H a (.dK kvs) ∧ kvs.map (·.1) = ks.map Sum.inr ∧ ks.length < 64 ∧
    ∀ ys p, ys.Perm ks → sortedS ys = true → H p = none → Q (.ref p) (upd H p (.lst (ys.map V.str)))) := by
  intro pins s σ H xs us Q I r q
  obtain ⟨a, kvs, ks, ex, hd, hks, h64, q⟩ := q
  subst ex
  obtain ⟨u, eu, rx⟩ := vals1 r
  subst eu
  cases rx
  obtain ⟨z, lo, vs, rel, dd⟩ := dk_rd I.hok hd
  obtain ⟨ep, hat⟩ := dd.dictAt
  have hkeys : vs.map (·.1) = ks.map Sum.inr := rel.keys.symm.trans hks
  have hl : vs.length = ks.length := by
    have e := congrArg List.length hkeys
    rw [List.length_map, List.length_map] at e
    exact e
  have h16 : vs.length ≤ sizeLine := by rw [hl, sizeLine_eq]; omega
  refine Calls.call_function_entry PyProof.Rows.kind_sorted PyProof.Rows.plain_sorted PyProof.Rows.entry_sorted (PyProof.Rows.args_sorted1 _) ?_
  unfold Builtin.«sorted»
  refine wpAny_bind (m := checkCount "sorted" 1 1 _) (wpAny_pure ?_)
  obtain ⟨x, hx, hm0, hk0⟩ := EndOk.pt (A := X.A.in1) (d := a) (hm.at I).in1 hat.lt_size
  refine wpAny_bind (collectD (A := X.A.in1) (knd := mixKind X.prog X.w) (kvs := vs) (ep := ep) hk0 lo hx hm0 hat h16 fun h' tk acc hk hacc => ?_)
  have hal : acc.toList.length = ks.length := by rw [Array.length_toList, hacc.1, hl]
  have hS : StrsAre acc.toList ks := strs_at hal fun j v e => by
    obtain ⟨k, x, e1, e2⟩ := hacc.2 j v (by rw [← Array.getElem?_toList]; exact e)
    have e3 : (vs.map (·.1))[j]? = some k := by rw [List.getElem?_map, e1]; all_goals rfl
    rw [hkeys, List.getElem?_map] at e3
    cases e4 : ks[j]? with
    | none => rw [e4] at e3; cases e3
    | some y =>
      rw [e4] at e3
      have e5 : Sum.inr y = k := Option.some.inj e3
      subst e5
      obtain ⟨t, ev⟩ := Value.isStrOf_shape (x := y) (v := v) e2
      exact ⟨y, t, rfl, ev⟩
  have I1 : Inv X pins σ H { s with heap := h', toks := tk } := I.kept hk
  refine wpAny_bind (wpAny_newList ?_ (by rw [hal, sizeLine_eq]; omega))
  have hoL : (h'.push (seqObj "list" acc.toList.toArray 0)).get? h'.objs.size = some (seqObj "list" acc.toList.toArray 0) := Heap.get?_push_size _ rfl
  show wpAny _ _ _ _ _ { s with heap := h'.push (seqObj "list" acc.toList.toArray 0), toks := tk }
  refine wpAny_bind (wpAny_holding (wpAny_call_entry PyProof.Rows.slot_list_sort ⟨_, hoL, rfl⟩ PyProof.Rows.entry_list_sort
    (list_sort_treeK strKind_oneLt (s := { s with heap := h'.push (seqObj "list" acc.toList.toArray 0), toks := tk }) hoL hS.keysOf (fun v₁ v₂ rest e => keyKind_strs (by rw [← e]; exact hS)) (by rw [hal]; exact h64) fun st' hp hs => ⟨_, rfl, ?_⟩)
    (PyProof.Rows.args_list_sort _)))
  obtain ⟨ys, g1, g2, g3⟩ := sorted_out_str hS hp hs
  obtain ⟨e', he'⟩ := PyProof.Rows.sortedHeap_at (vs := acc.toList) (out := (arrOf st').map (·.2)) hoL
  have hlen : (ys.map V.str).length ≤ sizeLine := by
    rw [List.length_map, g2.length_eq]
    exact Nat.le_trans (Nat.le_of_lt h64) (by decide)
  refine wpAny_pure ⟨_, rfl, .ref h'.objs.size, upd H h'.objs.size (.lst (ys.map V.str)), I1.laid (t' := tk) (fun b u e => ?_) (Nat.le_refl _)
    (show ObjOk X.prog X.w _ _ _ (.lst (ys.map V.str)) from ⟨hlen, ((arrOf st').map (·.2)).toList, e', vals_of_strs g1, by rw [Array.toArray_toList]; exact he'⟩), rfl, q ys _ g2 g3 (I1.hok.fresh (Nat.le_refl _))⟩
  have hb : b < h'.objs.size := Heap.lt_size e
  rw [PyProof.Rows.sortedHeap_old (Nat.ne_of_lt hb) (by rw [size_push']; exact Nat.lt_succ_of_lt hb)]
  exact Heap.get?_push_of_some _ e
end
end Spf
end
section
set_option maxHeartbeats 4000000
/-! Figures, words, falls: the plain law. -/
namespace Spf
open PySem PySem.Spec PyProof.Rows L2
/-! ### signs -/
def sgL : List Nat := [48, 49, 50, 51, 52, 53, 54, 55, 56, 57, 97, 98]
def sg (d : Nat) : Nat := sgL.getD d 48
def sgn (d : Nat) : Str := ⟨#[sg d]⟩
def wd (ds : List Nat) : Str := ⟨(ds.map sg).toArray⟩
theorem signs_wd (ds : List Nat) : signs (wd ds) = ds.map sgn := by simp [signs, wd, sgn, Function.comp_def]
theorem sg_inj : ∀ {a b : Nat}, a < 12 → b < 12 → sg a = sg b → a = b := by
  have : ∀ a : Fin 12, ∀ b : Fin 12, sg a = sg b → a = b := by decide +kernel
  intro a b ha hb e
  exact Fin.mk.inj (this ⟨a, ha⟩ ⟨b, hb⟩ e)
theorem sg_lt : ∀ {a b : Nat}, a < 12 → b < 12 → (sg a ≤ sg b ↔ a ≤ b) := by
  have : ∀ a : Fin 12, ∀ b : Fin 12, (sg a ≤ sg b ↔ a ≤ b) := by decide +kernel
  intro a b ha hb
  exact this ⟨a, ha⟩ ⟨b, hb⟩
theorem wd_inj : ∀ {xs ys : List Nat}, (∀ d ∈ xs, d < 12) → (∀ d ∈ ys, d < 12) → wd xs = wd ys → xs = ys := by
  intro xs ys hx hy e
  have e1 : xs.map sg = ys.map sg := by
    have : (xs.map sg).toArray = (ys.map sg).toArray := by
      have := congrArg Str.cps e
      exact this
    simpa using this
  induction xs generalizing ys with
  | nil =>
    cases ys with
    | nil => rfl
    | cons _ _ => cases e1
  | cons x xs ih =>
    cases ys with
    | nil => cases e1
    | cons y ys =>
      simp only [List.map_cons, List.cons.injEq] at e1
      have hxy := sg_inj (hx x List.mem_cons_self) (hy y List.mem_cons_self) e1.1
      rw [hxy, ih (fun d h => hx d (List.mem_cons_of_mem _ h)) (fun d h => hy d (List.mem_cons_of_mem _ h)) (by unfold wd; rw [e1.2]) e1.2]
/-! ### numbers -/
def num (b : Nat) (ds : List Nat) : Nat := ds.foldl (fun a d => a * b + d) 0
theorem num_snoc (b : Nat) (ds : List Nat) (d : Nat) : num b (ds ++ [d]) = num b ds * b + d := by simp [num, List.foldl_append]
def low (b : Nat) : Nat → Nat → List Nat
  | 0, _ => []
  | i + 1, k => (k / b ^ i % b) :: low b i k
theorem low_length (b k : Nat) : ∀ i, (low b i k).length = i
  | 0 => rfl
  | i + 1 => by rw [low, List.length_cons, low_length b k i]
theorem low_lt {b k : Nat} (hb : 0 < b) : ∀ i, ∀ d ∈ low b i k, d < b
  | 0, d, h => by cases h
  | i + 1, d, h => by
    rw [low] at h
    rcases List.mem_cons.mp h with h | h
    · exact h ▸ Nat.mod_lt _ hb
    · exact low_lt hb i d h
theorem low_snoc (b k : Nat) : ∀ i, low b (i + 1) k = low b i (k / b) ++ [k % b]
  | 0 => by simp [low]
  | i + 1 => by
    rw [low, low_snoc b k i, low, List.cons_append, Nat.pow_succ, Nat.mul_comm, ← Nat.div_div_eq_div_mul]
theorem low_num {b : Nat} (hb : 0 < b) : ∀ (n : Nat) (ds : List Nat), ds.length = n → (∀ d ∈ ds, d < b) → low b n (num b ds) = ds
  | 0, ds, h, _ => by
    cases ds with
    | nil => rfl
    | cons _ _ => cases h
  | n + 1, ds, h, hd => by
    obtain ⟨xs, d, rfl⟩ : ∃ xs d, ds = xs ++ [d] := by
      rcases List.eq_nil_or_concat ds with e | ⟨xs, d, e⟩
      · subst e; cases h
      · exact ⟨xs, d, by rw [e, List.concat_eq_append]⟩
    have hl : xs.length = n := by simpa using h
    have hdb : d < b := hd d (by simp)
    rw [low_snoc, num_snoc]
    have e1 : (num b xs * b + d) / b = num b xs := by
      rw [Nat.mul_comm, Nat.mul_add_div hb, Nat.div_eq_of_lt hdb, Nat.add_zero]
    have e2 : (num b xs * b + d) % b = d := by
      rw [Nat.mul_comm, Nat.mul_add_mod, Nat.mod_eq_of_lt hdb]
    rw [e1, e2, low_num hb n xs hl fun z hz => hd z (List.mem_append_left _ hz)]
theorem num_lt {b : Nat} (hb : 0 < b) : ∀ (n : Nat) (ds : List Nat), ds.length = n → (∀ d ∈ ds, d < b) → num b ds < b ^ n
  | 0, ds, h, _ => by
    cases ds with
    | nil => exact Nat.one_pos
    | cons _ _ => cases h
  | n + 1, ds, h, hd => by
    obtain ⟨xs, d, rfl⟩ : ∃ xs d, ds = xs ++ [d] := by
      rcases List.eq_nil_or_concat ds with e | ⟨xs, d, e⟩
      · subst e; cases h
      · exact ⟨xs, d, by rw [e, List.concat_eq_append]⟩
    have hl : xs.length = n := by simpa using h
    have hdb : d < b := hd d (by simp)
    have := num_lt hb n xs hl fun z hz => hd z (List.mem_append_left _ hz)
    rw [num_snoc, Nat.pow_succ]
    have : num b xs * b + b ≤ b ^ n * b := by
      rw [← Nat.succ_mul]
      exact Nat.mul_le_mul_right _ this
    omega
/-- a field's base and places -/
structure Fld (b n : Nat) : Prop where
  b2 : 2 ≤ b
  b12 : b ≤ 12
  n1 : 1 ≤ n
  n6 : n ≤ 6
  sz : b ^ n ≤ 1000000
/-- figures of a word of the field -/
structure Wd (b n : Nat) (ds : List Nat) : Prop where
  len : ds.length = n
  lt : ∀ d ∈ ds, d < b
theorem Wd.lt12 {b n : Nat} {ds : List Nat} (h : Wd b n ds) (F : Fld b n) : ∀ d ∈ ds, d < 12 := fun d hd => Nat.lt_of_lt_of_le (h.lt d hd) F.b12
theorem low_wd {b n k : Nat} (F : Fld b n) : Wd b n (low b n k) := ⟨low_length b k n, low_lt (by have := F.b2; omega) n⟩
/-! ### figures in order -/
def asc (ds : List Nat) : List Nat := ds.mergeSort (fun a b => decide (a ≤ b))
theorem asc_perm (ds : List Nat) : (asc ds).Perm ds := List.mergeSort_perm ds _
theorem asc_sorted (ds : List Nat) : (asc ds).Pairwise (· ≤ ·) := by
  have := List.pairwise_mergeSort (le := fun a b : Nat => decide (a ≤ b)) (fun a b c h1 h2 => by simp at *; omega) (fun a b => by simp; omega) ds
  exact this.imp fun h => by simpa using h
theorem asc_of {ds es : List Nat} (p : es.Perm ds) (s : es.Pairwise (· ≤ ·)) : es = asc ds :=
  List.Perm.eq_of_pairwise (fun _ _ _ _ a b => Nat.le_antisymm a b) s (asc_sorted ds) (p.trans (asc_perm ds).symm)
theorem asc_wd {b n : Nat} {ds : List Nat} (h : Wd b n ds) : Wd b n (asc ds) := ⟨by rw [(asc_perm ds).length_eq, h.len], fun d hd => h.lt d ((asc_perm ds).mem_iff.mp hd)⟩
/-- ints in order -/
theorem asc_ints {ds : List Nat} {ns : List Int} (p : ns.Perm (ds.map Int.ofNat)) (s : ns.Pairwise (· ≤ ·)) : ns = (asc ds).map Int.ofNat := by
  refine List.Perm.eq_of_pairwise (fun _ _ _ _ a b => Int.le_antisymm a b) s ?_ (p.trans ((asc_perm ds).symm.map _))
  exact List.Pairwise.map _ (fun a b h => Int.ofNat_le.mpr h) (asc_sorted ds)
/-! ### signs in order -/
theorem rising_sgn : ∀ {p : Nat} {zs : List Nat}, p < 12 → (∀ z ∈ zs, z < 12) → risingS (sgn p) (zs.map sgn) = true → (p :: zs).Pairwise (· ≤ ·)
  | p, [], _, _, _ => by simp
  | p, z :: zs, hp, hz, h => by
    have h0 : (!ltCps (sgn z).cps.toList (sgn p).cps.toList && risingS (sgn z) (zs.map sgn)) = true := h
    obtain ⟨h1, h2⟩ := Bool.and_eq_true_iff.mp h0
    have hz1 := hz z List.mem_cons_self
    have ih := rising_sgn hz1 (fun y hy => hz y (List.mem_cons_of_mem _ hy)) h2
    have h3 : p ≤ z := by
      have : ¬ sg z < sg p := by simpa [sgn, ltCps] using h1
      exact (sg_lt hp hz1).mp (by omega)
    refine List.pairwise_cons.mpr ⟨fun y hy => ?_, ih⟩
    rcases List.mem_cons.mp hy with e | hy
    · exact e ▸ h3
    · exact Nat.le_trans h3 ((List.pairwise_cons.mp ih).1 y hy)
theorem sgn_inj {a b : Nat} (ha : a < 12) (hb : b < 12) (h : sgn a = sgn b) : a = b := by
  refine sg_inj ha hb ?_
  have := congrArg (fun s : Str => s.cps.toList) h
  simpa [sgn] using this
theorem unsgn : ∀ {ys : List Str} {ds : List Nat}, (∀ y ∈ ys, ∃ d, d ∈ ds ∧ y = sgn d) → ∃ zs : List Nat, ys = zs.map sgn ∧ ∀ z ∈ zs, z ∈ ds
  | [], _, _ => ⟨[], rfl, fun _ h => by cases h⟩
  | y :: ys, ds, h => by
    obtain ⟨d, hd, rfl⟩ := h y List.mem_cons_self
    obtain ⟨zs, rfl, hz⟩ := unsgn (ys := ys) (ds := ds) fun y hy => h y (List.mem_cons_of_mem _ hy)
    refine ⟨d :: zs, rfl, fun z hz' => ?_⟩
    rcases List.mem_cons.mp hz' with e | hz'
    · exact e ▸ hd
    · exact hz z hz'
theorem perm_sgn : ∀ {zs ds : List Nat}, (∀ d ∈ ds, d < 12) → (∀ z ∈ zs, z < 12) → (zs.map sgn).Perm (ds.map sgn) → zs.Perm ds := by
  intro zs ds hd hz h
  have key : ∀ xs : List Nat, (∀ d ∈ xs, d < 12) → ∀ a, a < 12 → (xs.map sgn).count (sgn a) = xs.count a := by
    intro xs
    induction xs with
    | nil => intro _ a _; rfl
    | cons x xs ih =>
      intro hx a ha
      rw [List.map_cons, List.count_cons, List.count_cons, ih (fun d h => hx d (List.mem_cons_of_mem _ h)) a ha]
      congr 1
      by_cases e : x = a
      · subst e; simp
      · have : sgn x ≠ sgn a := fun q => e (sgn_inj (hx x List.mem_cons_self) ha q)
        simp [e, this]
  refine List.perm_iff_count.mpr fun a => ?_
  by_cases ha : a < 12
  · rw [← key zs hz a ha, ← key ds hd a ha]
    exact List.perm_iff_count.mp h _
  · rw [List.count_eq_zero.mpr fun q => ha (hz a q), List.count_eq_zero.mpr fun q => ha (hd a q)]
theorem asc_signs {ds : List Nat} (hd : ∀ d ∈ ds, d < 12) {ys : List Str} (p : ys.Perm (ds.map sgn)) (s : sortedS ys = true) : ys = (asc ds).map sgn := by
  obtain ⟨zs, rfl, hz⟩ := unsgn (ys := ys) (ds := ds) fun y hy => by
    obtain ⟨d, hd, e⟩ := List.mem_map.mp (p.mem_iff.mp hy)
    exact ⟨d, hd, e.symm⟩
  have hz12 : ∀ z ∈ zs, z < 12 := fun z h => hd z (hz z h)
  have pz := perm_sgn hd hz12 p
  have sz : zs.Pairwise (· ≤ ·) := by
    cases zs with
    | nil => exact .nil
    | cons z zs => exact rising_sgn (hz12 z List.mem_cons_self) (fun y hy => hz12 y (List.mem_cons_of_mem _ hy)) s
  rw [asc_of pz sz]
/-! ### the fall -/
/-- the spreads, the widest ahead -/
def spr (ds : List Nat) : List Int := (List.range (ds.length / 2)).map fun k => ((asc ds).getD (ds.length - 1 - k) 0 : Int) - ((asc ds).getD k 0 : Int)
def wts (b n : Nat) : List Int := (List.range (n / 2)).map fun k => ((b ^ (n - 1 - k) : Nat) : Int) - ((b ^ k : Nat) : Int)
def fallV (b n : Nat) (ss : List Int) : Int := (List.zipWith (· * ·) (wts b n) ss).sum
def hiLo (b : Nat) (ds : List Nat) : Int := (num b (asc ds).reverse : Int) - (num b (asc ds) : Int)
def nxt (b : Nat) (ds : List Nat) : List Nat := low b ds.length (hiLo b ds).toNat
theorem fall_core {b : Nat} {n : Nat} (hn : n ≤ 6) {es : List Nat} (hl : es.length = n) :
    (List.zipWith (· * ·) (wts b n) ((List.range (n / 2)).map fun k => ((es.getD (n - 1 - k) 0 : Nat) : Int) - ((es.getD k 0 : Nat) : Int))).sum = (num b es.reverse : Int) - (num b es : Int) := by
  rcases es with _ | ⟨e1, _ | ⟨e2, _ | ⟨e3, _ | ⟨e4, _ | ⟨e5, _ | ⟨e6, _ | ⟨e7, es⟩⟩⟩⟩⟩⟩⟩
  all_goals (simp only [List.length_nil, List.length_cons] at hl; subst hl)
  · rfl
  · simp [wts, num, List.range_succ]
  · simp [wts, num, List.range_succ]; grind
  · simp [wts, num, List.range_succ]; grind
  · simp [wts, num, List.range_succ]; grind
  · simp [wts, num, List.range_succ]; grind
  · simp [wts, num, List.range_succ]; grind
  · omega
theorem fall_is {b n : Nat} {ds : List Nat} (F : Fld b n) (h : Wd b n ds) : fallV b n (spr ds) = hiLo b ds := by
  have := fall_core (b := b) F.n6 (asc_wd h).len
  unfold fallV spr hiLo
  rw [h.len]
  exact this
theorem sorted_at {es : List Nat} (s : es.Pairwise (· ≤ ·)) {i j : Nat} (hij : i ≤ j) (hj : j < es.length) : es.getD i 0 ≤ es.getD j 0 := by
  have hi : i < es.length := by omega
  rw [List.getD_eq_getElem?_getD, List.getD_eq_getElem?_getD, List.getElem?_eq_getElem hi, List.getElem?_eq_getElem hj, Option.getD_some, Option.getD_some]
  rcases Nat.lt_or_eq_of_le hij with h | h
  · exact List.pairwise_iff_getElem.mp s i j _ hj h
  · subst h; exact Nat.le_refl _
theorem sum_nonneg : ∀ {xs : List Int}, (∀ x ∈ xs, 0 ≤ x) → 0 ≤ xs.sum
  | [], _ => by simp
  | x :: xs, h => by
    have h1 := h x List.mem_cons_self
    have h2 := sum_nonneg fun y hy => h y (List.mem_cons_of_mem _ hy)
    simp only [List.sum_cons]
    omega
theorem spr_nonneg {ds : List Nat} : ∀ x ∈ spr ds, 0 ≤ x := by
  intro x hx
  obtain ⟨k, hk, rfl⟩ := List.mem_map.mp hx
  have hk' := List.mem_range.mp hk
  have := sorted_at (asc_sorted ds) (i := k) (j := ds.length - 1 - k) (by omega) (by rw [(asc_perm ds).length_eq]; omega)
  omega
theorem wts_nonneg {b n : Nat} (hb : 0 < b) : ∀ x ∈ wts b n, 0 ≤ x := by
  intro x hx
  obtain ⟨k, hk, rfl⟩ := List.mem_map.mp hx
  have hk' := List.mem_range.mp hk
  have := Nat.pow_le_pow_right hb (show k ≤ n - 1 - k by omega)
  omega
theorem zip_nonneg : ∀ {xs ys : List Int}, (∀ x ∈ xs, 0 ≤ x) → (∀ y ∈ ys, 0 ≤ y) → ∀ z ∈ List.zipWith (· * ·) xs ys, 0 ≤ z
  | [], _, _, _, z, h => by simp at h
  | _ :: _, [], _, _, z, h => by simp at h
  | x :: xs, y :: ys, hx, hy, z, h => by
    rw [List.zipWith_cons_cons] at h
    rcases List.mem_cons.mp h with h | h
    · exact h ▸ Int.mul_nonneg (hx x List.mem_cons_self) (hy y List.mem_cons_self)
    · exact zip_nonneg (fun x h => hx x (List.mem_cons_of_mem _ h)) (fun y h => hy y (List.mem_cons_of_mem _ h)) z h
theorem hiLo_nonneg {b n : Nat} {ds : List Nat} (F : Fld b n) (h : Wd b n ds) : 0 ≤ hiLo b ds := by
  rw [← fall_is F h]
  exact sum_nonneg (zip_nonneg (wts_nonneg (by have := F.b2; omega)) spr_nonneg)
theorem nxt_wd {b n : Nat} {ds : List Nat} (F : Fld b n) (h : Wd b n ds) : Wd b n (nxt b ds) := by
  unfold nxt
  rw [h.len]
  exact low_wd F
/-! ### the way -/
def orb (b : Nat) (ds : List Nat) : Nat → List Nat
  | 0 => ds
  | i + 1 => nxt b (orb b ds i)
def orbs (b : Nat) (ds : List Nat) (m : Nat) : List (List Nat) := (List.range m).map (orb b ds)
theorem orbs_succ (b : Nat) (ds : List Nat) (m : Nat) : orbs b ds (m + 1) = orbs b ds m ++ [orb b ds m] := by simp [orbs, List.range_succ]
theorem orbs_length (b : Nat) (ds : List Nat) (m : Nat) : (orbs b ds m).length = m := by simp [orbs]
theorem orb_wd {b n : Nat} {ds : List Nat} (F : Fld b n) (h : Wd b n ds) : ∀ i, Wd b n (orb b ds i)
  | 0 => h
  | i + 1 => nxt_wd F (orb_wd F h i)
structure IsWay (b : Nat) (ds : List Nat) (m : Nat) : Prop where
  nd : (orbs b ds m).Nodup
  back : orb b ds m ∈ orbs b ds m
theorem mem_orbs {b : Nat} {ds x : List Nat} {m : Nat} : x ∈ orbs b ds m ↔ ∃ i, i < m ∧ orb b ds i = x := by simp [orbs]
theorem IsWay.uniq {b : Nat} {ds : List Nat} {m k : Nat} (h : IsWay b ds m) (h' : IsWay b ds k) : m = k := by
  have : ∀ {m k : Nat}, IsWay b ds m → IsWay b ds k → ¬ m < k := by
    intro m k h h' l
    obtain ⟨i, hi, e⟩ := mem_orbs.mp h.back
    have := List.pairwise_iff_getElem.mp h'.nd i m (by rw [orbs_length]; omega) (by rw [orbs_length]; omega) hi
    simp [orbs] at this
    exact this e
  have a := this h h'
  have c := this h' h
  omega
/-- words without two alike are few -/
theorem few {b n : Nat} {xs : List (List Nat)} (F : Fld b n) (nd : xs.Nodup) (hw : ∀ x ∈ xs, Wd b n x) : xs.length ≤ b ^ n := by
  have hb : 0 < b := by have := F.b2; omega
  have nd' : (xs.map (num b)).Nodup := by
    refine List.pairwise_map.mpr (List.Pairwise.imp_of_mem ?_ nd)
    intro x y hx hy hne e
    refine hne ?_
    rw [← low_num hb n x (hw x hx).len (hw x hx).lt, ← low_num hb n y (hw y hy).len (hw y hy).lt, e]
  have := List.Nodup.length_le_of_subset nd' (l₂ := List.range (b ^ n)) (fun k hk => by
    obtain ⟨x, hx, rfl⟩ := List.mem_map.mp hk
    exact List.mem_range.mpr (num_lt hb n x (hw x hx).len (hw x hx).lt))
  simpa using this
theorem orbs_few {b n : Nat} {ds : List Nat} {m : Nat} (F : Fld b n) (h : Wd b n ds) (nd : (orbs b ds m).Nodup) : m ≤ b ^ n := by
  have := few F nd (fun x hx => by
    obtain ⟨i, _, rfl⟩ := mem_orbs.mp hx
    exact orb_wd F h i)
  rwa [orbs_length] at this
theorem orbs_nd {b : Nat} {ds : List Nat} {m : Nat} (nd : (orbs b ds m).Nodup) (hn : orb b ds m ∉ orbs b ds m) : (orbs b ds (m + 1)).Nodup := by
  rw [orbs_succ]
  refine List.nodup_append.mpr ⟨nd, by simp, ?_⟩
  intro x hx y hy e
  rw [List.mem_singleton] at hy
  subst hy
  subst e
  exact hn hx
open Classical in
noncomputable def wayN (b : Nat) (ds : List Nat) : Nat := if h : ∃ m, IsWay b ds m then Classical.choose h else 0
theorem IsWay.is {b : Nat} {ds : List Nat} {m : Nat} (h : IsWay b ds m) : wayN b ds = m := by
  have hx : ∃ m, IsWay b ds m := ⟨m, h⟩
  unfold wayN
  rw [dif_pos hx]
  exact (Classical.choose_spec hx).uniq h
theorem IsWay.pos {b : Nat} {ds : List Nat} {m : Nat} (h : IsWay b ds m) : 0 < m := by
  obtain ⟨i, hi, _⟩ := mem_orbs.mp h.back
  omega
/-- the words of the way -/
noncomputable def way (b : Nat) (ds : List Nat) : List Str := (orbs b ds (wayN b ds)).map wd
/-- where the way comes back -/
noncomputable def steps (b : Nat) (ds : List Nat) : Nat := (way b ds).idxOf (wd (orb b ds (wayN b ds)))
theorem mem_wds {b n : Nat} {ds x : List Nat} {m : Nat} (F : Fld b n) (h : Wd b n ds) (hx : Wd b n x) : wd x ∈ (orbs b ds m).map wd ↔ x ∈ orbs b ds m := by
  constructor
  · intro hm
    obtain ⟨y, hy, e⟩ := List.mem_map.mp hm
    obtain ⟨i, _, rfl⟩ := mem_orbs.mp hy
    rw [← wd_inj ((orb_wd F h i).lt12 F) (hx.lt12 F) e]
    exact hy
  · exact fun hm => List.mem_map_of_mem hm
/-- a ring told from its least word on -/
def turnS (xs : List Str) : List Str := xs.drop (xs.idxOf (minS xs)) ++ xs.take (xs.idxOf (minS xs))
noncomputable def ring (b : Nat) (ds : List Nat) : List Str := turnS ((way b ds).drop (steps b ds))
theorem wayN_le {b n : Nat} {ds : List Nat} (F : Fld b n) (h : Wd b n ds) : wayN b ds ≤ 1000000 := by
  by_cases hx : ∃ m, IsWay b ds m
  · obtain ⟨m, hm⟩ := hx
    rw [hm.is]
    exact Nat.le_trans (orbs_few F h hm.nd) F.sz
  · unfold wayN
    rw [dif_neg hx]
    exact Nat.zero_le _
theorem way_len (b : Nat) (ds : List Nat) : (way b ds).length = wayN b ds := by simp [way, orbs_length]
theorem steps_le {b n : Nat} {ds : List Nat} (F : Fld b n) (h : Wd b n ds) : steps b ds ≤ 1000000 := by
  refine Nat.le_trans ?_ (wayN_le F h)
  rw [← way_len]
  exact List.idxOf_le_length
theorem ring_le {b n : Nat} {ds : List Nat} (F : Fld b n) (h : Wd b n ds) : (ring b ds).length ≤ 1000000 := by
  refine Nat.le_trans ?_ (wayN_le F h)
  rw [← way_len]
  unfold ring turnS
  simp only [List.length_append, List.length_drop, List.length_take]
  omega
end Spf
end
section
set_option maxHeartbeats 4000000
/-! The text by places; what the written part says of each def. -/
namespace Spf
open PySem PySem.Spec PyProof.Rows L2 L2H HotX
abbrev SpfXEX1 := @PySem.SpfX.EX1
/-- a def of the top, found -/
structure DefAt (K : PySem.W.Frag) (mg : Str → Option Value) (x : Str) (st : Stmt) (ps : List Str) where
  f : Addr
  fd : FuncData
  F : Fun K x x st f fd
  mg : mg x = some (.ref f)
  kp : PySem.W.keepIn K (.ref f) = true
  b : Binds K fd ps []
/-- a class of the top, found -/
structure ClsAt (K : PySem.W.Frag) (mg : Str → Option Value) (x : Str) where
  C : Addr
  cl : Cls K C
  mg : mg x = some (.ref C)
structure InitAt (K : PySem.W.Frag) (C : Addr) (qual : Str) (st : Stmt) (ps : List Str) where
  f : Addr
  fd : FuncData
  F : Fun K "__init__" qual st f fd
  mk1 : Mk K C f
  b : Binds K fd ps []
structure MethAt (K : PySem.W.Frag) (C : Addr) (m qual : Str) (st : Stmt) (ps : List Str) where
  f : Addr
  fd : FuncData
  F : Fun K m qual st f fd
  mt : Meth K C m f
  fin : PySem.W.fnIn K f = true
  b : Binds K fd ps []
structure PropAt (K : PySem.W.Frag) (C : Addr) (m qual : Str) (st : Stmt) where
  f : Addr
  pr : Addr
  fd : FuncData
  F : Fun K m qual st f fd
  p : PropOf K C m pr f
  b : Binds K fd ["self"] []
/-- an instance's class by isinstance -/
structure InsTy (K : PySem.W.Frag) (C : Addr) : Prop where
  ha : PySem.W.findIn K (.ref C) "__class__" = some (some (.builtin "object.__class__"))
  hn : PySem.W.specialIn K (.builtin "object.__class__") "__get__" = some (some (.builtin "getset_descriptor.__get__"))
  ht : PySem.W.takesIn K (.builtin "object.__class__") = some true
  hm : PySem.W.mroIn K C (.type "object") = some true
  self : PySem.W.kitOne K (.ref C) (.ref C) = some true
/-- an exception of the top without __init__ -/
structure Own0 (K : PySem.W.Frag) (mg : Str → Option Value) (x : Str) (C : Addr) : Prop where
  F : ∃ B newId initId bmB, ExcBaseFacts B newId initId bmB ∧ PySem.W.excIn K C bmB newId = true
  gC : mg x = some (.ref C)
  kC : PySem.W.keepIn K (.ref C) = true
  exC : PySem.W.subIn K (.ref C) (.type "BaseException") = some true
  tyC : PySem.W.typeIn K (.ref C) = some (.type "type")
/-- what is asked of an exception that law's catch gets: cs the classes -/
structure Caught (K : PySem.W.Frag) (D : Addr) (three : List Value) (cs : List Value) (bs : List Bool) : Prop where
  exc : ExcC K D
  xf : XfC K D
  catch_ : PySem.W.exmAny K (.ref D) three = some true
  kit : cs.map (fun c => PySem.W.kitOne K (.ref D) c) = bs.map some
structure TxtA (K : PySem.W.Frag) (mg : Str → Option Value) where
  len : mg "len" = none
  range : mg "range" = none
  int : mg "int" = none
  str : mg "str" = none
  abs : mg "abs" = none
  divmod : mg "divmod" = none
  sorted : mg "sorted" = none
  list : mg "list" = none
  tuple : mg "tuple" = none
  min : mg "min" = none
  max : mg "max" = none
  sum : mg "sum" = none
  zip : mg "zip" = none
  all : mg "all" = none
  enumerate : mg "enumerate" = none
  dict : mg "dict" = none
  isinstance : mg "isinstance" = none
  bool : mg "bool" = none
  repr : mg "repr" = none
  TypeError : mg "TypeError" = none
  KeyError : mg "KeyError" = none
  ValueError : mg "ValueError" = none
  LookupError : mg "LookupError" = none
  ArithmeticError : mg "ArithmeticError" = none
  tLETTERS : Tok
  LETTERS : mg "LETTERS" = some (.str "abcdefghijklmnopqrstuvwxyz" tLETTERS)
  tDIGITS : Tok
  DIGITS : mg "DIGITS" = some (.str "0123456789" tDIGITS)
  tSIGNS : Tok
  SIGNS : mg "SIGNS" = some (.str "0123456789ab" tSIGNS)
  tLEAST_BASE : Tok
  LEAST_BASE : mg "LEAST_BASE" = some (.int 2 tLEAST_BASE)
  tMOST_BASE : Tok
  MOST_BASE : mg "MOST_BASE" = some (.int 12 tMOST_BASE)
  tMOST_PLACES : Tok
  MOST_PLACES : mg "MOST_PLACES" = some (.int 6 tMOST_PLACES)
  tLONGEST_NAME : Tok
  LONGEST_NAME : mg "LONGEST_NAME" = some (.int 8 tLONGEST_NAME)
  is_integer : DefAt K mg "is_integer" (top 22) ["value"]
  is_within : DefAt K mg "is_within" (top 23) ["value", "least", "most"]
  is_name : DefAt K mg "is_name" (top 24) ["value"]
  check_name : DefAt K mg "check_name" (top 25) ["value"]
  powers_of : DefAt K mg "powers_of" (top 29) ["base", "many"]
  is_spelled : DefAt K mg "is_spelled" (top 32) ["field", "value"]
  figures_of : DefAt K mg "figures_of" (top 33) ["word"]
  spelled : DefAt K mg "spelled" (top 34) ["field", "number"]
  spreads_of : DefAt K mg "spreads_of" (top 36) ["word"]
  weights_of : DefAt K mg "weights_of" (top 37) ["field"]
  fall_value : DefAt K mg "fall_value" (top 38) ["field", "some"]
  fall_from : DefAt K mg "fall_from" (top 39) ["field", "some"]
  next_word : DefAt K mg "next_word" (top 40) ["field", "word"]
  way_of : DefAt K mg "way_of" (top 41) ["field", "word"]
  turned : DefAt K mg "turned" (top 43) ["ring"]
  ring_from : DefAt K mg "ring_from" (top 44) ["field", "word"]
  steps_from : DefAt K mg "steps_from" (top 45) ["field", "word"]
  is_wish : DefAt K mg "is_wish" (top 50) ["value"]
  is_entry : DefAt K mg "is_entry" (top 51) ["value"]
  holds : DefAt K mg "holds" (top 52) ["table", "wish"]
  check_wishes : DefAt K mg "check_wishes" (top 53) ["entries", "wishes"]
  l_well : DefAt K mg "_law_well" (top 56) ["_law_script", "_law_k"]
  l_dip : DefAt K mg "_law_dip" (top 57) ["_law_well_here", "_law_many"]
  l_mixed : DefAt K mg "_law_mixed" (top 58) ["_law_well_here", "_law_many"]
  l_ground : DefAt K mg "_law_ground" (top 59) ["_law_well_here", "_law_most_size"]
  l_size : DefAt K mg "_law_size" (top 60) ["_law_base_here", "_law_places_here"]
  l_number : DefAt K mg "_law_number" (top 61) ["_law_base_here", "_law_name"]
  l_spell : DefAt K mg "_law_spell" (top 62) ["_law_base_here", "_law_places_here", "_law_number_here"]
  l_next : DefAt K mg "_law_next" (top 63) ["_law_base_here", "_law_name"]
  l_drawn_word : DefAt K mg "_law_drawn_word" (top 64) ["_law_well_here", "_law_base_here", "_law_places_here"]
  l_path : DefAt K mg "_law_path" (top 65) ["_law_base_here", "_law_name"]
  l_ring : DefAt K mg "_law_ring" (top 66) ["_law_base_here", "_law_name"]
  l_spreads : DefAt K mg "_law_spreads" (top 67) ["_law_name"]
  l_of : DefAt K mg "_law_of" (top 68) ["_law_well_here", "_law_menu"]
  l_made : DefAt K mg "_law_made" (top 69) ["_law_entry"]
  l_keeps : DefAt K mg "_law_keeps" (top 70) ["_law_held", "_law_hope_here"]
  l_broken : DefAt K mg "_law_broken" (top 71) ["_law_held", "_law_hopes"]
  l_due : DefAt K mg "_law_due" (top 72) ["_law_state", "_law_deed_here"]
  l_put : DefAt K mg "_law_put" (top 73) ["_law_shelf", "_law_tag", "_law_thing"]
  l_do : DefAt K mg "_law_do" (top 74) ["_law_shelf", "_law_deed_here", "_law_by_name"]
  l_told : DefAt K mg "_law_told" (top 75) ["_law_call"]
  l_word : DefAt K mg "_law_word" (top 76) ["_law_e"]
  l_fits : DefAt K mg "_law_fits" (top 77) ["_law_shelf", "_law_state"]
  l_behind : DefAt K mg "_law_behind" (top 78) ["_law_well_here", "_law_shelf", "_law_state", "_law_deed_here"]
  l_near : DefAt K mg "_law_near" (top 79) ["_law_well_here", "_law_entry"]
  l_entries : DefAt K mg "_law_entries" (top 80) ["_law_well_here"]
  l_hope : DefAt K mg "_law_hope" (top 81) ["_law_well_here", "_law_held", "_law_tags"]
  l_deed : DefAt K mg "_law_deed" (top 82) ["_law_well_here", "_law_entries_here", "_law_state"]
  l_nested : DefAt K mg "_law_nested" (top 83) ["_law_well_here", "_law_shelf", "_law_entries_here", "_law_state", "_law_deep"]
  l_right : DefAt K mg "_law_right" (top 84) ["_law_well_here"]
  law : DefAt K mg "law" (top 85) ["_law_script"]
  Field : ClsAt K mg "Field"
  fInit : InitAt K Field.C "Field.__init__" (inClass (top 31) 0) ["self", "base", "places"]
  fBase : PropAt K Field.C "base" "Field.base" (inClass (top 31) 2)
  fPlaces : PropAt K Field.C "places" "Field.places" (inClass (top 31) 3)
  fFigures : PropAt K Field.C "figures" "Field.figures" (inClass (top 31) 4)
  fEq : MethAt K Field.C "__eq__" "Field.__eq__" (inClass (top 31) 7) ["self", "other"]
  fNe : PySem.W.findIn K (.ref Field.C) "__ne__" = some (some (.builtin "object.__ne__"))
  fIns : InsTy K Field.C
  noRoot : NoAttr K Field.C "root"
  noWidth : NoAttr K Field.C "width"
  noMany : NoAttr K Field.C "many"
  Mark : ClsAt K mg "Mark"
  mInit : InitAt K Mark.C "Mark.__init__" (inClass (top 47) 0) ["self", "states", "before"]
  noMStates : NoAttr K Mark.C "states"
  noBefore : NoAttr K Mark.C "before"
  Attempt : ClsAt K mg "Attempt"
  aInit : InitAt K Attempt.C "Attempt.__init__" (inClass (top 48) 0) ["self", "holder"]
  aEnter : MethAt K Attempt.C "__enter__" "Attempt.__enter__" (inClass (top 48) 1) ["self"]
  aExit : MethAt K Attempt.C "__exit__" "Attempt.__exit__" (inClass (top 48) 2) ["self", "kind", "value", "trace"]
  noHolder : NoAttr K Attempt.C "holder"
  noMark : NoAttr K Attempt.C "mark"
  Book : ClsAt K mg "Book"
  bInit : InitAt K Book.C "Book.__init__" (inClass (top 54) 0) ["self"]
  bEntries : PropAt K Book.C "entries" "Book.entries" (inClass (top 54) 1)
  bNames : PropAt K Book.C "names" "Book.names" (inClass (top 54) 2)
  bWishes : PropAt K Book.C "wishes" "Book.wishes" (inClass (top 54) 3)
  bChanges : PropAt K Book.C "changes" "Book.changes" (inClass (top 54) 4)
  bSet : MethAt K Book.C "__setitem__" "Book.__setitem__" (inClass (top 54) 5) ["self", "name", "value"]
  bGet : MethAt K Book.C "__getitem__" "Book.__getitem__" (inClass (top 54) 6) ["self", "name"]
  bWish : MethAt K Book.C "wish" "Book.wish" (inClass (top 54) 8) ["self", "wish"]
  bLift : MethAt K Book.C "lift" "Book.lift" (inClass (top 54) 9) ["self", "index"]
  bUndo : MethAt K Book.C "undo" "Book.undo" (inClass (top 54) 10) ["self"]
  bTrial : MethAt K Book.C "trial" "Book.trial" (inClass (top 54) 11) ["self"]
  bTried : MethAt K Book.C "tried" "Book.tried" (inClass (top 54) 12) ["self", "action"]
  bHas : MethAt K Book.C "__contains__" "Book.__contains__" (inClass (top 54) 13) ["self", "value"]
  bLen : MethAt K Book.C "__len__" "Book.__len__" (inClass (top 54) 14) ["self"]
  bBool : MethAt K Book.C "__bool__" "Book.__bool__" (inClass (top 54) 15) ["self"]
  noStates : NoAttr K Book.C "states"
  bSeq : PySem.W.noSeq K Book.C = true
  IN : Addr
  IW : Addr
  IWi : Addr
  II : Addr
  UN : Addr
  Br : Addr
  NU : Addr
  WV : Addr
  WN : Addr
  NA : Addr
  gIN : mg "InvalidName" = some (.ref IN)
  gIW : mg "InvalidWord" = some (.ref IW)
  gIWi : mg "InvalidWish" = some (.ref IWi)
  gWV : mg "WrongValue" = some (.ref WV)
  gWN : mg "WrongName" = some (.ref WN)
  gNA : mg "NoAnswer" = some (.ref NA)
  fII : Addr
  fUN : Addr
  fBr : Addr
  xII : SpfXEX1 K mg "InvalidIndex" "given" II fII
  xUN : SpfXEX1 K mg "UnknownName" "given" UN fUN
  xBr : SpfXEX1 K mg "Broken" "index" Br fBr
  xNU : Own0 K mg "NothingToUndo" NU
  cII : Caught K II [.ref WV, .ref WN, .ref NA] [.ref IN, .ref IW, .ref IWi, .ref II, .ref UN, .ref Br, .ref NU, .ref WV, .ref WN, .ref NA, .type "ValueError", .type "LookupError", .type "ArithmeticError"] [false, false, false, true, false, false, false, true, false, false, true, false, false]
  cUN : Caught K UN [.ref WV, .ref WN, .ref NA] [.ref IN, .ref IW, .ref IWi, .ref II, .ref UN, .ref Br, .ref NU, .ref WV, .ref WN, .ref NA, .type "ValueError", .type "LookupError", .type "ArithmeticError"] [false, false, false, false, true, false, false, false, true, false, false, true, false]
  cBr : Caught K Br [.ref WV, .ref WN, .ref NA] [.ref IN, .ref IW, .ref IWi, .ref II, .ref UN, .ref Br, .ref NU, .ref WV, .ref WN, .ref NA, .type "ValueError", .type "LookupError", .type "ArithmeticError"] [false, false, false, false, false, true, false, false, false, true, false, false, true]
  cNU : Caught K NU [.ref WV, .ref WN, .ref NA] [.ref IN, .ref IW, .ref IWi, .ref II, .ref UN, .ref Br, .ref NU, .ref WV, .ref WN, .ref NA, .type "ValueError", .type "LookupError", .type "ArithmeticError"] [false, false, false, false, false, false, true, false, false, true, false, false, true]
section
variable {P : Program} {w : World} {K : PySem.W.Frag} {mg : Str → Option Value} {base : Heap} {CX : CXT} {g h : Bool} {k : Nat} {f : Addr} {fd : FuncData} {ps : List Str} {sp : Sp}
/-- a def that raises nothing, calm -/
theorem funX0 {x qual : Str} {st : Stmt} {N : List Str} (F : Fun K x qual st f fd) (S : FnScope N ps (defScope st))
    (len : ∀ vs H Q E, sp vs H Q E → vs.length = ps.length)
    (hbody : ∀ (cdv : Value) (A : Around) (outer : List Env) (s : Shared) (H : Hp) (vs : List V) (Q : VK) (E : XK) (p : Addr × Obj), Cxt (cxX CX0 P w K mg base N qual (defScope st) f cdv A outer s H E h p).nox g h k p → sp vs H Q E →
      ∃ t, PSs (cxX CX0 P w K mg base N qual (defScope st) f cdv A outer s H E h p).nox (defBody st) t ∧ t { nx := fun _ H' => Q .non H', rt := Q } (L2.start N vs) H) : FnX P w K mg base CX0 g h (k + 1) f fd ps sp := by
  refine funX F S len fun cdv A outer s H vs Q E p c hsp => ?_
  obtain ⟨t, ht, q⟩ := hbody cdv A outer s H vs Q E p (c.nox _) hsp
  exact ⟨t, ht.nox, q⟩
theorem at00 {X : Cx} : ∀ σ, PassesAt CX0 X σ ((fun _ => E0) σ) := fun _ => at0
theorem nogd {g : Bool} : false = true → g = true := fun z => Bool.noConfusion z
theorem Cxt.blk {X : Cx} {g : Bool} {k : Nat} {p : Addr × Obj} (c : Cxt X g false k p) {s : Shared} {H : Hp} {scope : Scope} {cenv : Env} {fp : List Addr} : Cxt (X.blk s H scope cenv fp) g false k p := ⟨c.rm, c.cm, fun z => Bool.noConfusion z⟩
theorem Cxt.blkX {X : Cx} {p : Addr × Obj} (c : Cxt X g h k p) {s : Shared} {H : Hp} {scope : Scope} {cenv : Env} {fp : List Addr} : Cxt (blkX X s H scope cenv fp) g h k p := ⟨c.rm, c.cm, c.pin⟩
end
/-! ### frames -/
/-- all but w is as it was -/
def Ex (w : Addr) (H H' : Hp) : Prop := ∀ a o, a ≠ w → H a = some o → H' a = some o
theorem Ex.refl (w : Addr) (H : Hp) : Ex w H H := fun _ _ _ h => h
theorem Ex.trans {w : Addr} {H H1 H2 : Hp} (a : Ex w H H1) (b : Ex w H1 H2) : Ex w H H2 := fun c o n h => b c o n (a c o n h)
theorem Ex.of_same {w : Addr} {H H' : Hp} (a : Same H H') : Ex w H H' := fun c o _ h => a c o h
theorem Ex.new {w a : Addr} {H H1 : Hp} {o : HO} (e : Ex w H H1) (h : H1 a = none) : Ex w H (upd H1 a o) := fun c q n hc => by
  have := e c q n hc
  rw [upd_ne (ne_of_none this h)]
  exact this
theorem Ex.put {w : Addr} {H H1 : Hp} {o : HO} (e : Ex w H H1) : Ex w H (upd H1 w o) := fun c q n hc => by
  rw [upd_ne n]
  exact e c q n hc
theorem _root_.L2.Rd.not_none {H : Hp} {a : Addr} {o : HO} (h : Rd H a o) : H a ≠ none := by
  rcases h with h | ⟨_, h⟩ <;> rw [h] <;> exact fun z => by cases z
theorem Ex.rd {w a : Addr} {H H' : Hp} {o : HO} (e : Ex w H H') (n : a ≠ w) (h : Rd H a o) : Rd H' a o := by
  rcases h with h | ⟨u, h⟩
  · exact .inl (e _ _ n h)
  · exact .inr ⟨u, e _ _ n h⟩
theorem Ex.seq {w a : Addr} {H H' : Hp} {K : PySem.W.Frag} {xs : List V} (e : Ex w H H') (n : a ≠ w) (h : SqL K H a xs) : SqL K H' a xs := by
  rcases h with h | h
  · exact .inl (e.rd n h)
  · exact .inr h
theorem Ex.seqT {w a : Addr} {H H' : Hp} {K : PySem.W.Frag} {xs : List V} (e : Ex w H H') (n : a ≠ w) (h : SqT K H a xs) : SqT K H' a xs := by
  rcases h with h | h
  · exact .inl (e.rd n h)
  · exact .inr h
theorem _root_.L2.Same.rd {a : Addr} {H H' : Hp} {o : HO} (e : Same H H') (h : Rd H a o) : Rd H' a o := by
  rcases h with h | ⟨u, h⟩
  · exact .inl (e _ _ h)
  · exact .inr ⟨u, e _ _ h⟩
theorem _root_.L2.Same.seqT {a : Addr} {H H' : Hp} {K : PySem.W.Frag} {xs : List V} (e : Same H H') (h : SqT K H a xs) : SqT K H' a xs := by
  rcases h with h | h
  · exact .inl (e.rd h)
  · exact .inr h
end Spf
end
section
set_option maxHeartbeats 4000000
/-! The wells. -/
namespace Spf
open PySem PySem.Spec PyProof.Rows L2 L2H HotX
theorem szL {n : Nat} (h : n ≤ 1000000) : n ≤ sizeLine := by rw [sizeLine_eq]; omega
theorem szLt {n : Nat} (h : n ≤ 1000000) : n < sizeLine := by rw [sizeLine_eq]; omega
section
variable {P : Program} {w : World} {K : PySem.W.Frag} {mg : Str → Option Value} {base : Heap}
/-! ### _law_size -/
abbrev vLSize : List Str := ["_law_base_here", "_law_places_here", "_law_found", "_law_turn"]
abbrev pLSize : List Str := ["_law_base_here", "_law_places_here"]
theorem scLSize : FnScope vLSize pLSize (defScope (top 60)) := ⟨rfl, rfl, rfl, by decide +kernel, rfl, by decide +kernel, by decide +kernel⟩
def spSize : Sp := fun vs H Q _ => ∃ b n : Nat, vs = [.int b, .int n] ∧ b ≤ 12 ∧ n ≤ 10 ∧ Q (.int (b ^ n : Nat)) H
theorem okLSize (T : TxtA K mg) : FnX P w K mg base CX0 false false 1 T.l_size.f T.l_size.fd pLSize spSize := by
  refine funX0 (k := 0) T.l_size.F scLSize (fun vs H Q E ⟨b, n, e, _⟩ => e ▸ rfl) fun cdv A outer s H vs Q E p c ⟨b, n, e, hb, hn, q⟩ => ?_
  subst e
  refine ⟨_, pss_cons (ps_set (i := 2) scLSize.nd rfl (Or.inl rfl) pe_int)
      (pss_cons (ps_for PassesOwn.never rfl (pi_range1 rfl T.range (pa_cons (pv 1) pa_nil)) (pg_name (i := 3) scLSize.nd rfl (Or.inl rfl)) (pss_one (ps_set (i := 2) scLSize.nd rfl (Or.inl rfl) (pe_op op_mul (pv 2) (pv 0)))))
      (pss_one (ps_ret (pv 2)))), ?_⟩
  refine ⟨_, rfl, n, rfl, by omega, by omega, for_range (n := (n : Int).toNat) (fun i σ H' => H' = H ∧ ∃ t, σ = [some (.int b), some (.int n), some (.int (b ^ i : Nat)), t]) ⟨rfl, _, rfl⟩ ?_ ?_⟩
  · rintro i σ H' hi ⟨rfl, t, rfl⟩
    refine ⟨_, rfl, _, rfl, _, _, rfl, rfl, .inr ⟨by omega, by omega⟩, rfl, some (.int (0 + i)), ?_⟩
    show [some (V.int b), some (V.int n), some (V.int (((b ^ i : Nat) : Int) * b)), _] = _
    rw [Nat.pow_succ, Int.natCast_mul]
  · rintro σ H' ⟨rfl, t, rfl⟩
    refine ⟨_, rfl, ?_⟩
    rw [Int.toNat_natCast]
    exact q
/-! ### _law_dip -/
abbrev vLDip : List Str := ["_law_well_here", "_law_many", "_law_digit"]
abbrev pLDip : List Str := ["_law_well_here", "_law_many"]
theorem scLDip : FnScope vLDip pLDip (defScope (top 57)) := ⟨rfl, rfl, rfl, by decide +kernel, rfl, by decide +kernel, by decide +kernel⟩
/-- the well at a, drawn from at most c times -/
def Well (H : Hp) (a : Addr) (c : Nat) : Prop := ∃ x0 x1 x2 : Int, H a = some (.lst [.int x0, .int x1, .int x2]) ∧ 0 ≤ x0 ∧ x0 < 2147483629 ∧ 0 ≤ x1 ∧ 0 ≤ x2 ∧ x2 ≤ c
theorem Well.mono {H : Hp} {a : Addr} {c d : Nat} (h : Well H a c) (l : c ≤ d) : Well H a d := by
  obtain ⟨x0, x1, x2, e, h0, h1, h2, h3, h4⟩ := h
  exact ⟨x0, x1, x2, e, h0, h1, h2, h3, by omega⟩
theorem Well.same {H H' : Hp} {a : Addr} {c : Nat} (h : Well H a c) (e : Same H H') : Well H' a c := by
  obtain ⟨x0, x1, x2, e', r⟩ := h
  exact ⟨x0, x1, x2, e _ _ e', r⟩
def spDip : Sp := fun vs H Q _ => ∃ (a : Addr) (m : Int) (c : Nat), vs = [.ref a, .int m] ∧ Well H a c ∧ c ≤ 2 ^ 40 ∧ 0 < m ∧ m < 2 ^ 30 ∧ ∀ (d : Nat) (H' : Hp), (d : Int) < m → Well H' a (c + 1) → Ex a H H' → Q (.int d) H'
theorem okLDip (T : TxtA K mg) : FnX P w K mg base CX0 false false 1 T.l_dip.f T.l_dip.fd pLDip spDip := by
  refine funX0 (k := 0) T.l_dip.F scLDip (fun vs H Q E ⟨a, m, c, e, _⟩ => e ▸ rfl) fun cdv A outer s H vs Q E p c ⟨a, m, n, e, ⟨x0, x1, x2, ha, h0, h0', h1, h2, h2'⟩, hn, hm, hm', q⟩ => ?_
  subst e
  refine ⟨_, pss_cons (ps_if (pt_cmpR op_gt (pe_ix ix_list (pv 0) pe_int (fun _ _ => rfl)) pe_int (nomark _)) (pss_cons (ps_asg (pe_callB call_divmod (by rfl) T.divmod (by decide +kernel) (pa_cons (pe_ix ix_list (pv 0) pe_int (fun _ _ => rfl)) (pa_cons (pv 1) pa_nil))) (pg_tupX c.md (pgs_cons (pg_sub (pv 0) pe_int set_list) (pgs_cons (pg_name (i := 2) scLDip.nd rfl (Or.inl rfl)) pgs_nil))))
      (pss_one (ps_ret (pv 2)))) pss_nil)
      (pss_cons (ps_asg (pe_op op_add (pe_ix ix_list (pv 0) pe_int (fun _ _ => rfl)) pe_int) (pg_sub (pv 0) pe_int set_list))
      (pss_cons (ps_asg (pe_op op_mod (pe_callTy call_int1 (by rfl) T.int (by decide +kernel) (pa_cons (pe_op op_add (pe_op op_add (pe_op op_mul (pe_ix ix_list (pv 0) pe_int (fun _ _ => rfl)) pe_int) (pe_op op_mul (pe_op op_mul pe_int (pe_ix ix_list (pv 0) pe_int (fun _ _ => rfl))) (pe_ix ix_list (pv 0) pe_int (fun _ _ => rfl)))) pe_int) pa_nil)) pe_int) (pg_sub (pv 0) pe_int set_list))
      (pss_one (ps_ret (pe_op op_mod (pe_callTy call_int1 (by rfl) T.int (by decide +kernel) (pa_cons (pe_op op_fdiv (pe_ix ix_list (pv 0) pe_int (fun _ _ => rfl)) pe_int) pa_nil)) (pv 1)))))), ?_⟩
  refine ⟨_, rfl, a, _, _, _, rfl, rfl, SqL.of ha, rfl, _, _, rfl, rfl, _, rfl, ?_⟩
  refine ite2 (fun z => ?_) (fun z => ?_)
  · refine ⟨_, rfl, a, _, _, _, rfl, rfl, SqL.of ha, rfl, _, rfl, _, _, rfl, ⟨hm, by omega⟩, fun t ht => ?_⟩
    have nat : a ≠ t := ne_of_none ha ht
    refine ⟨t, _, rfl, SqT.of upd_same, rfl, _, _, rfl, _, rfl, a, _, _, _, rfl, rfl, Eq.trans (upd_ne nat) ha, rfl, _, _, rfl, rfl, _, rfl, ?_⟩
    have h3 : 0 ≤ x1 % m := Int.emod_nonneg _ (by omega)
    have h4 : x1 % m < m := Int.emod_lt_of_pos _ hm
    have := q (x1 % m).toNat (upd (upd H t (.tup [.int (x1 / m), .int (x1 % m)])) a (.lst [.int x0, .int (x1 / m), .int x2])) (by omega) ⟨x0, x1 / m, x2, upd_same, h0, h0', Int.ediv_nonneg h1 (by omega), h2, by omega⟩ ((Ex.refl _ _).new ht).put
    rw [Int.toNat_of_nonneg h3] at this
    exact this
  · refine ⟨_, rfl, a, _, _, _, rfl, rfl, SqL.of ha, rfl, _, _, rfl, rfl, _, rfl, a, _, _, _, rfl, rfl, ha, rfl, ?_⟩
    refine ⟨_, rfl, a, _, _, _, rfl, rfl, SqL.of upd_same, rfl, _, _, rfl, rfl, .inl ⟨by omega, by omega⟩, _, rfl, a, _, _, _, rfl, rfl, SqL.of upd_same, rfl, _, _, rfl, rfl, .inl ⟨by omega, by omega⟩, _, rfl, a, _, _, _, rfl, rfl, SqL.of upd_same, rfl, _, _, rfl, rfl, .inl ⟨by omega, by omega⟩, _, _, rfl, rfl, _, _, rfl, rfl, .inl ⟨_, rfl, _, _, rfl, rfl, (by show (0 : Int) < 2147483629; decide), _, rfl, a, _, _, _, rfl, rfl, upd_same, rfl, ?_⟩⟩
    refine ⟨_, rfl, a, _, _, _, rfl, rfl, SqL.of upd_same, rfl, _, _, rfl, rfl, ⟨by decide, by decide⟩, .inl ⟨_, rfl, _, rfl, _, _, rfl, rfl, hm, ?_⟩⟩
    rw [upd_upd]
    generalize hy : (x0 * 39373 + 7 * (x2 + 1) * (x2 + 1) + 101) = y
    have h3 : 0 ≤ y % 2147483629 := Int.emod_nonneg _ (by omega)
    have h4 : y % 2147483629 < 2147483629 := Int.emod_lt_of_pos _ (by omega)
    have h5 : 0 ≤ (y % 2147483629) / 64 % m := Int.emod_nonneg _ (by omega)
    have h6 : (y % 2147483629) / 64 % m < m := Int.emod_lt_of_pos _ hm
    have := q ((y % 2147483629) / 64 % m).toNat (upd H a (.lst [.int (y % 2147483629), .int x1, .int (x2 + 1)])) (by omega) ⟨y % 2147483629, x1, x2 + 1, upd_same, h3, h4, h1, by omega, by omega⟩ (Ex.refl _ _).put
    rw [Int.toNat_of_nonneg h5] at this
    exact this
end
end Spf
end
section
set_option maxHeartbeats 4000000
/-! The law's own figures. -/
namespace Spf
open PySem PySem.Spec PyProof.Rows L2 L2H HotX
/-! ### texts of figures -/
theorem wd_cons (d : Nat) (ds : List Nat) : wd (d :: ds) = sgn d ++ wd ds := by
  show (⟨((d :: ds).map sg).toArray⟩ : Str) = Str.append ⟨#[sg d]⟩ ⟨(ds.map sg).toArray⟩
  simp [Str.append]
theorem wd_snoc (d : Nat) (ds : List Nat) : wd (ds ++ [d]) = wd ds ++ sgn d := by
  show (⟨((ds ++ [d]).map sg).toArray⟩ : Str) = Str.append ⟨(ds.map sg).toArray⟩ ⟨#[sg d]⟩
  simp [Str.append]
theorem wd_length (ds : List Nat) : (wd ds).length = ds.length := by
  show ((ds.map sg).toArray).size = ds.length
  simp
theorem wd_nil : wd [] = "" := rfl
theorem sg_at {d : Nat} (h : d < 12) : atI ("0123456789ab" : Str).cps.toList (d : Int) = some (sg d) := by
  have : ∀ d : Fin 12, ("0123456789ab" : Str).cps.toList[(d : Nat)]? = some (sg d) := by decide +kernel
  exact atI_nat (this ⟨d, h⟩)
theorem sg_ix {d : Nat} (h : d < 12) : Txt.index0 ("0123456789ab" : Str) (sgn d) = some d := by
  have : ∀ d : Fin 12, Txt.index0 ("0123456789ab" : Str) (sgn d) = some (d : Nat) := by decide +kernel
  exact this ⟨d, h⟩
theorem takesN {X : Cx} : Takes X (fun _ _ _ _ => False) := fun u s' ⟨a, B, sI, pins, σ, H, cls, d, e, I, nb, up, sky, na, os, ag, w⟩ => w.elim
theorem rIx_sg {σ : L2.St} {H : Hp} {Q : VK} {d : Nat} (h : d < 12) (q : Q (.int d) H) : rIndexX (fun _ _ _ _ => False) σ (.str "0123456789ab") [.str (sgn d)] H Q :=
  ⟨_, _, rfl, rfl, fun k e => by
    rw [sg_ix h] at e
    cases e
    exact q, fun e => by
    rw [sg_ix h] at e
    cases e⟩
theorem rSg {H : Hp} {Q : VK} {d : Nat} (h : d < 12) (q : Q (.str (sgn d)) H) : rIxS (.str "0123456789ab") (.int d) H Q := ⟨_, _, _, rfl, rfl, (by rw [sizeLine_eq]; decide +kernel), sg_at h, q⟩
theorem inV_strs (x : Str) (xs : List Str) : inV (.str x) (xs.map V.str) = decide (x ∈ xs) := by
  induction xs with
  | nil => rfl
  | cons y ys ih =>
    show (eqV (.str y) (.str x) || inV (.str x) (ys.map V.str)) = _
    rw [ih]
    show ((y == x) || _) = _
    by_cases e : y = x
    · subst e; simp
    · have : ¬ x = y := fun q => e q.symm
      simp [e, this]
theorem flat_strs (xs : List Str) : (xs.map V.str).all flatV = true := by simp [flatV]
theorem flat_ints (xs : List Int) : (xs.map V.int).all flatV = true := by simp [flatV]
theorem rIndex_strs {K : PySem.W.Frag} {H : Hp} {a : Addr} {x : Str} {xs : List Str} {Q : VK} (h : SqL K H a (xs.map V.str)) (m : x ∈ xs) (q : Q (.int (xs.idxOf x : Nat)) H) : rIndex K (.ref a) [.str x] H Q := by
  have hl := List.idxOf_lt_length_iff.mpr m
  refine ⟨a, _, _, xs.idxOf x, .str x, rfl, rfl, h, rfl, flat_strs xs, ?_, by show (x == x) = true; simp, fun j z hj hz => ?_, q⟩
  · rw [List.getElem?_map, List.getElem?_eq_getElem hl, List.getElem_idxOf]
    rfl
  · rw [List.getElem?_map, List.getElem?_eq_getElem (by omega)] at hz
    cases hz
    show (xs[j] == x) = false
    have := List.not_of_lt_findIdx (p := (· == x)) hj
    simpa using this
theorem one_index {σ : L2.St} {K : PySem.W.Frag} {H : Hp} {a : Addr} {x : Str} {xs : List Str} {Q : VK} (h : SqL K H a (xs.map V.str)) (m : x ∈ xs) (q : Q (.int (xs.idxOf x : Nat)) H) : tNil σ H fun ys H2 => rIndex K (.ref a) (.str x :: ys) H2 Q := rIndex_strs h m q
theorem one_sg {σ : L2.St} {H : Hp} {Q : VK} {d : Nat} (h : d < 12) (q : Q (.int d) H) : tNil σ H fun ys H2 => rIndexX (fun _ _ _ _ => False) σ (.str "0123456789ab") (.str (sgn d) :: ys) H2 Q := rIx_sg (σ := σ) h q
section
variable {P : Program} {w : World} {K : PySem.W.Frag} {mg : Str → Option Value} {base : Heap}
/-! ### _law_mixed -/
abbrev vLMixed : List Str := ["_law_well_here", "_law_many", "_law_found", "_law_k"]
abbrev pLMixed : List Str := ["_law_well_here", "_law_many"]
theorem scLMixed : FnScope vLMixed pLMixed (defScope (top 58)) := ⟨rfl, rfl, rfl, by decide +kernel, rfl, by decide +kernel, by decide +kernel⟩
def spMixed : Sp := fun vs H Q _ => ∃ (a : Addr) (n c : Nat), vs = [.ref a, .int n] ∧ Well H a c ∧ c + n ≤ 2 ^ 40 ∧ n ≤ 100 ∧ ∀ (l : Addr) (ks : List Nat) (H' : Hp), ks.length = n → (∀ k ∈ ks, k < n) → H' l = some (.lst (ks.map fun k : Nat => V.int k)) → H l = none → Well H' a (c + n) → Ex a H H' → Q (.ref l) H'
theorem okLMixed (T : TxtA K mg) : FnX P w K mg base CX0 false false 2 T.l_mixed.f T.l_mixed.fd pLMixed spMixed := by
  refine funX0 (k := 1) T.l_mixed.F scLMixed (fun vs H Q E ⟨a, n, c, e, _⟩ => e ▸ rfl) fun cdv A outer s H vs Q E p c ⟨a, n, m, e, hw, hm, hn, q⟩ => ?_
  subst e
  refine ⟨_, pss_cons (ps_set (i := 2) scLMixed.nd rfl (Or.inl rfl) (pe_lst pa_nil))
      (pss_cons (ps_for PassesOwn.never rfl (pi_range1 rfl T.range (pa_cons (pv 1) pa_nil)) (pg_name (i := 3) scLMixed.nd rfl (Or.inl rfl)) (pss_one (ps_expr (pe_bm PySem.F.plainAttrs_list PySem.F.slot_list_insert PySem.F.type_list_insert mt_insert (pv 2) (pa_cons (pe_callX (okLDip T) (c.mono (by decide)) nogd rfl T.l_dip.mg T.l_dip.kp T.l_dip.b at00 (pa_cons (pv 0) (pa_cons (pe_op op_add (pe_callB call_len_seq (by rfl) T.len PySem.boot_len (pa_cons (pv 2) pa_nil)) pe_int) pa_nil))) (pa_cons (pv 3) pa_nil))))))
      (pss_one (ps_ret (pv 2)))), ?_⟩
  refine ⟨Nat.zero_le _, fun l hl => ?_⟩
  obtain ⟨_, _, _, ha, _⟩ := id hw
  have nla : l ≠ a := (ne_of_none ha hl).symm
  refine ⟨_, rfl, n, rfl, by omega, by omega, for_range (n := (n : Int).toNat) (fun i σ H' => ∃ (ks : List Nat) (t : Option V), σ = [some (.ref a), some (.int n), some (.ref l), t] ∧ H' l = some (.lst (ks.map fun k : Nat => V.int k)) ∧ ks.length = i ∧ (∀ k ∈ ks, k < i) ∧ Well H' a (m + i) ∧ Ex a H H')
    ⟨[], _, rfl, upd_same, rfl, (fun k h => by cases h), hw.same ((Same.refl _).new hl), (Ex.refl _ _).new hl⟩ ?_ ?_⟩
  · rintro i σ H' hi ⟨ks, t, rfl, h1, h2, h3, h4, h5⟩
    refine ⟨_, rfl, .inl ⟨rfl, _, SqL.of h1⟩, _, rfl, _, rfl, l, _, rfl, .inl (SqL.of h1), _, _, rfl, rfl, a, _, m + i, rfl, h4, by omega, by omega, by rw [List.length_map]; omega, fun d H2 hd w2 e2 => ?_⟩
    rw [List.length_map] at hd
    have h6 : H2 l = some (.lst (ks.map fun k : Nat => V.int k)) := e2 _ _ nla h1
    refine ⟨_, rfl, l, _, _, _, rfl, rfl, h6, by rw [List.length_map]; exact szLt (by omega), by omega, by omega, ?_⟩
    obtain ⟨_, _, _, ha2, _⟩ := id w2
    refine ⟨ks.take d ++ [i] ++ ks.drop d, _, rfl, ?_, ?_, ?_, ?_, ?_⟩
    · rw [upd_same]
      simp
    · simp; omega
    · intro k hk
      simp only [List.append_assoc, List.mem_append, List.mem_singleton] at hk
      rcases hk with hk | hk | hk
      · have := h3 k (List.mem_of_mem_take hk); omega
      · omega
      · have := h3 k (List.mem_of_mem_drop hk); omega
    · obtain ⟨x0, x1, x2, e, r⟩ := w2
      exact ⟨x0, x1, x2, by rw [upd_ne nla.symm]; exact e, r⟩
    · intro b o hb hB
      have hbl : b ≠ l := ne_of_none hB hl
      rw [upd_ne hbl]
      exact e2 _ _ hb (h5 _ _ hb hB)
  · rintro σ H' ⟨ks, t, rfl, h1, h2, h3, h4, h5⟩
    rw [Int.toNat_natCast] at h2 h3 h4
    exact ⟨_, rfl, q l ks H' h2 h3 h1 hl h4 h5⟩
/-! ### _law_ground -/
abbrev vLGround : List Str := ["_law_well_here", "_law_most_size", "_law_base_here", "_law_places_here", "_law_turn"]
abbrev pLGround : List Str := ["_law_well_here", "_law_most_size"]
theorem scLGround : FnScope vLGround pLGround (defScope (top 59)) := ⟨rfl, rfl, rfl, by decide +kernel, rfl, by decide +kernel, by decide +kernel⟩
def spGround : Sp := fun vs H Q _ => ∃ (a : Addr) (c : Nat), vs = [.ref a, .int 1000000] ∧ Well H a c ∧ c + 2 ≤ 2 ^ 40 ∧ ∀ (l : Addr) (b n : Nat) (H' : Hp), Fld b n → H' l = some (.lst [.int b, .int n]) → H l = none → Well H' a (c + 2) → Ex a H H' → Q (.ref l) H'
theorem okLGround (T : TxtA K mg) : FnX P w K mg base CX0 false false 2 T.l_ground.f T.l_ground.fd pLGround spGround := by
  refine funX0 (k := 1) T.l_ground.F scLGround (fun vs H Q E ⟨a, c, e, _⟩ => e ▸ rfl) fun cdv A outer s H vs Q E p c ⟨a, m, e, hw, hm, q⟩ => ?_
  subst e
  refine ⟨_, pss_cons (ps_par (i := 2) (j := 3) (by rfl) scLGround.nd rfl rfl (by decide) rfl rfl (pa_cons (pe_op op_add pe_int (pe_callX (okLDip T) (c.mono (by decide)) nogd rfl T.l_dip.mg T.l_dip.kp T.l_dip.b at00 (pa_cons (pv 0) (pa_cons pe_int pa_nil)))) (pa_cons pe_int pa_nil)) (by rfl))
      (pss_cons (ps_for PassesOwn.never rfl (pi_range1 rfl T.range (pa_cons (pe_callX (okLDip T) (c.mono (by decide)) nogd rfl T.l_dip.mg T.l_dip.kp T.l_dip.b at00 (pa_cons (pv 0) (pa_cons pe_int pa_nil))) pa_nil)) (pg_name (i := 4) scLGround.nd rfl (Or.inl rfl)) (pss_one (ps_if (pt_cmpR op_le (pe_callX (okLSize T) (c.mono (by decide)) nogd rfl T.l_size.mg T.l_size.kp T.l_size.b at00 (pa_cons (pv 2) (pa_cons (pe_op op_add (pv 3) pe_int) pa_nil))) (pv 1) (nomark _)) (pss_one (ps_set (i := 3) scLGround.nd rfl (Or.inl rfl) (pe_op op_add (pv 3) pe_int))) pss_nil)))
      (pss_one (ps_ret (pe_lst (pa_cons (pv 2) (pa_cons (pv 3) pa_nil)))))), ?_⟩
  refine ⟨_, rfl, a, _, m, rfl, hw, by omega, by decide, by decide, fun d H1 hd w1 e1 => ?_⟩
  refine ⟨_, _, rfl, rfl, _, _, rfl, _, rfl, a, _, m + 1, rfl, w1, by omega, by decide, by decide, fun t H2 ht w2 e2 => ?_⟩
  refine ⟨t, rfl, by omega, by omega, for_range (n := (t : Int).toNat) (fun i σ H' => H' = H2 ∧ ∃ (n : Nat) (u : Option V), σ = [some (.ref a), some (.int 1000000), some (.int (2 + d : Nat)), some (.int n), u] ∧ n ≤ i + 1 ∧ 1 ≤ n ∧ (2 + d) ^ n ≤ 1000000)
    ⟨rfl, 1, _, rfl, by omega, by omega, by rw [Nat.pow_one]; omega⟩ ?_ ?_⟩
  · rintro i σ H' hi ⟨rfl, n, u, rfl, hn, h1, h2⟩
    refine ⟨_, rfl, _, rfl, _, _, rfl, rfl, 2 + d, n + 1, rfl, by omega, by omega, _, rfl, _, _, rfl, rfl, _, rfl, ?_⟩
    refine ite2 (fun z => ?_) (fun z => ?_)
    · refine ⟨_, rfl, _, _, rfl, rfl, rfl, n + 1, some (.int (0 + i)), rfl, by omega, by omega, ?_⟩
      have := of_decide_eq_true z
      omega
    · exact ⟨rfl, n, _, rfl, by omega, h1, h2⟩
  · rintro σ H' ⟨rfl, n, u, rfl, hn, h1, h2⟩
    refine ⟨_, rfl, _, rfl, szL (by show 2 ≤ 1000000; decide), fun l hl => ?_⟩
    have l0 : H l = none := by
      cases hH : H l with
      | none => rfl
      | some o =>
        obtain ⟨_, _, _, ha, _⟩ := id w2
        have := (e1.trans e2) l o (ne_of_none ha hl).symm hH
        rw [hl] at this
        cases this
    refine q l (2 + d) n _ ⟨by omega, by omega, h1, by omega, h2⟩ upd_same l0 ?_ ((e1.trans e2).new hl)
    exact w2.same ((Same.refl _).new hl)
/-! ### _law_of -/
abbrev vLOf : List Str := ["_law_well_here", "_law_menu"]
abbrev pLOf : List Str := ["_law_well_here", "_law_menu"]
theorem scLOf : FnScope vLOf pLOf (defScope (top 68)) := ⟨rfl, rfl, rfl, by decide +kernel, rfl, by decide +kernel, by decide +kernel⟩
def spOf (K : PySem.W.Frag) : Sp := fun vs H Q _ => ∃ (a l : Addr) (xs : List V) (c : Nat), vs = [.ref a, .ref l] ∧ Well H a c ∧ c ≤ 2 ^ 40 ∧ SqL K H l xs ∧ l ≠ a ∧ 0 < xs.length ∧ xs.length < 2 ^ 30 ∧ ∀ (j : Nat) (x : V) (H' : Hp), xs[j]? = some x → Well H' a (c + 1) → Ex a H H' → Q x H'
theorem okLOf (T : TxtA K mg) : FnX P w K mg base CX0 false false 2 T.l_of.f T.l_of.fd pLOf (spOf K) := by
  refine funX0 (k := 1) T.l_of.F scLOf (fun vs H Q E ⟨a, l, xs, c, e, _⟩ => e ▸ rfl) fun cdv A outer s H vs Q E p c ⟨a, l, xs, m, e, hw, hm, hl, nla, h0, hx, q⟩ => ?_
  subst e
  refine ⟨_, pss_one (ps_ret (pe_ix ix_list (pv 1) (pe_callX (okLDip T) (c.mono (by decide)) nogd rfl T.l_dip.mg T.l_dip.kp T.l_dip.b at00 (pa_cons (pv 0) (pa_cons (pe_callB call_len_seq (by rfl) T.len PySem.boot_len (pa_cons (pv 1) pa_nil)) pa_nil))) (fun _ _ => rfl))), ?_⟩
  refine ⟨_, rfl, _, rfl, _, rfl, l, _, rfl, .inl hl, a, _, m, rfl, hw, hm, by omega, by omega, fun d H1 hd w1 e1 => ?_⟩
  have hd' : d < xs.length := by omega
  exact ⟨l, _, _, _, rfl, rfl, e1.seq nla hl, atI_nat (List.getElem?_eq_getElem hd'), q d _ H1 (List.getElem?_eq_getElem hd') w1 e1⟩
end
end Spf
end
section
set_option maxHeartbeats 4000000
/-! The law's own figures: words, falls, ways. -/
namespace Spf
open PySem PySem.Spec PyProof.Rows L2 L2H HotX
theorem Ex.free {w l : Addr} {H H' : Hp} {o : HO} (e : Ex w H H') (hw : H' w = some o) (h : H' l = none) : H l = none := by
  cases hH : H l with
  | none => rfl
  | some u =>
    have := e l u (ne_of_none hw h).symm hH
    rw [h] at this
    cases this
theorem strlen_sgn (d : Nat) : (sgn d).length = 1 := rfl
section
variable {P : Program} {w : World} {K : PySem.W.Frag} {mg : Str → Option Value} {base : Heap}
/-! ### _law_drawn_word -/
abbrev vLDrawnWord : List Str := ["_law_well_here", "_law_base_here", "_law_places_here", "_law_kind", "_law_first", "_law_found", "_law_turn", "_law_figure"]
abbrev pLDrawnWord : List Str := ["_law_well_here", "_law_base_here", "_law_places_here"]
theorem scLDrawnWord : FnScope vLDrawnWord pLDrawnWord (defScope (top 64)) := ⟨rfl, rfl, rfl, by decide +kernel, rfl, by decide +kernel, by decide +kernel⟩
def spDrawn : Sp := fun vs H Q _ => ∃ (a : Addr) (b n c : Nat), vs = [.ref a, .int b, .int n] ∧ Well H a c ∧ c + 14 ≤ 2 ^ 40 ∧ Fld b n ∧ ∀ (ds : List Nat) (H' : Hp), Wd b n ds → Well H' a (c + 14) → Ex a H H' → Q (.str (wd ds)) H'
theorem okLDrawnWord (T : TxtA K mg) : FnX P w K mg base CX0 false false 2 T.l_drawn_word.f T.l_drawn_word.fd pLDrawnWord spDrawn := by
  refine funX0 (k := 1) T.l_drawn_word.F scLDrawnWord (fun vs H Q E ⟨a, b, n, c, e, _⟩ => e ▸ rfl) fun cdv A outer s H vs Q E p c ⟨a, b, n, m, e, hw, hm, F, q⟩ => ?_
  subst e
  have b2 := F.b2
  have b12 := F.b12
  have n6 := F.n6
  refine ⟨_, pss_cons (ps_par (i := 3) (j := 4) (by rfl) scLDrawnWord.nd rfl rfl (by decide) rfl rfl (pa_cons (pe_callX (okLDip T) (c.mono (by decide)) nogd rfl T.l_dip.mg T.l_dip.kp T.l_dip.b at00 (pa_cons (pv 0) (pa_cons pe_int pa_nil))) (pa_cons (pe_callX (okLDip T) (c.mono (by decide)) nogd rfl T.l_dip.mg T.l_dip.kp T.l_dip.b at00 (pa_cons (pv 0) (pa_cons (pv 1) pa_nil))) pa_nil)) (by rfl))
      (pss_cons (ps_set (i := 5) scLDrawnWord.nd rfl (Or.inl rfl) pe_str)
      (pss_cons (ps_for PassesOwn.never rfl (pi_range1 rfl T.range (pa_cons (pv 2) pa_nil)) (pg_name (i := 6) scLDrawnWord.nd rfl (Or.inl rfl)) (pss_cons (ps_set (i := 7) scLDrawnWord.nd rfl (Or.inl rfl) (pe_ifExp (PW.pt (pw_and (pt_cmpR op_eq (pv 3) pe_int (nomark _)) (pw_and1 (pt_cmpR op_gt (pe_callX (okLDip T) (c.mono (by decide)) nogd rfl T.l_dip.mg T.l_dip.kp T.l_dip.b at00 (pa_cons (pv 0) (pa_cons pe_int pa_nil))) pe_int (nomark _))))) (pv 4) (pe_callX (okLDip T) (c.mono (by decide)) nogd rfl T.l_dip.mg T.l_dip.kp T.l_dip.b at00 (pa_cons (pv 0) (pa_cons (pv 1) pa_nil)))))
      (pss_one (ps_set (i := 5) scLDrawnWord.nd rfl (Or.inl rfl) (pe_op op_add_str (pv 5) (pe_ix ix_str pe_str (pv 7) (fun _ _ => rfl)))))))
      (pss_one (ps_ret (pv 5))))), ?_⟩
  refine ⟨_, rfl, a, _, m, rfl, hw, by omega, by decide, by decide, fun kd H1 hkd w1 e1 => ?_⟩
  refine ⟨_, rfl, _, rfl, a, _, m + 1, rfl, w1, by omega, by omega, by omega, fun fr H2 hfr w2 e2 => ?_⟩
  refine ⟨_, _, rfl, ?_⟩
  refine ⟨_, rfl, n, rfl, by omega, by omega, for_range (n := (n : Int).toNat) (fun i σ H' => ∃ (ds : List Nat) (u v : Option V), σ = [some (.ref a), some (.int b), some (.int n), some (.int kd), some (.int fr), some (.str (wd ds)), u, v] ∧ ds.length = i ∧ (∀ d ∈ ds, d < b) ∧ Well H' a (m + 2 + 2 * i) ∧ Ex a H H')
    ⟨[], _, _, rfl, rfl, (fun k h => by cases h), w2, e1.trans e2⟩ ?_ ?_⟩
  · rintro i σ H' hi ⟨ds, u, v, rfl, h2, h3, h4, h5⟩
    have sn : ∀ f : Nat, f < b → ∀ d ∈ ds ++ [f], d < b := fun f hf d hd => by
      rcases List.mem_append.mp hd with hd | hd
      · exact h3 d hd
      · exact List.mem_singleton.mp hd ▸ hf
    have sz : (wd ds).length + 1 ≤ sizeLine := by rw [wd_length]; exact szL (by omega)
    refine ⟨_, rfl, rfl, _, rfl, ?_⟩
    refine ite2 (fun z => ?_) (fun z => ?_)
    · refine ⟨_, rfl, a, _, m + 2 + 2 * i, rfl, h4, by omega, by decide, by decide, fun d H3 hd w3 e3 => ?_⟩
      refine ⟨_, _, rfl, rfl, _, rfl, ?_⟩
      refine ite2 (fun z => ?_) (fun z => ?_)
      · refine ⟨_, rfl, _, rfl, _, rfl, rSg (by omega) ⟨_, _, rfl, rfl, sz, ?_⟩⟩
        exact ⟨ds ++ [fr], _, _, by rw [wd_snoc]; rfl, by simp [h2], sn fr (by omega), w3.mono (by omega), h5.trans e3⟩
      · refine ⟨_, rfl, _, rfl, a, _, m + 2 + 2 * i + 1, rfl, w3, by omega, by omega, by omega, fun f H4 hf w4 e4 => ?_⟩
        refine ⟨_, rfl, _, rfl, rSg (by omega) ⟨_, _, rfl, rfl, sz, ?_⟩⟩
        exact ⟨ds ++ [f], _, _, by rw [wd_snoc]; rfl, by simp [h2], sn f (by omega), w4.mono (by omega), (h5.trans e3).trans e4⟩
    · refine ⟨_, rfl, _, rfl, a, _, m + 2 + 2 * i, rfl, h4, by omega, by omega, by omega, fun f H4 hf w4 e4 => ?_⟩
      refine ⟨_, rfl, _, rfl, rSg (by omega) ⟨_, _, rfl, rfl, sz, ?_⟩⟩
      exact ⟨ds ++ [f], _, _, by rw [wd_snoc]; rfl, by simp [h2], sn f (by omega), w4.mono (by omega), h5.trans e4⟩
  · rintro σ H' ⟨ds, u, v, rfl, h2, h3, h4, h5⟩
    rw [Int.toNat_natCast] at h2 h4
    exact ⟨_, rfl, q ds H' ⟨h2, h3⟩ (h4.mono (by omega)) h5⟩
/-! ### _law_number -/
abbrev vLNumber : List Str := ["_law_base_here", "_law_name", "_law_found", "_law_sign"]
abbrev pLNumber : List Str := ["_law_base_here", "_law_name"]
theorem scLNumber : FnScope vLNumber pLNumber (defScope (top 61)) := ⟨rfl, rfl, rfl, by decide +kernel, rfl, by decide +kernel, by decide +kernel⟩
def spNumber (K : PySem.W.Frag) : Sp := fun vs H Q _ => ∃ (r : Addr) (b : Nat) (ds : List Nat), vs = [.int b, .ref r] ∧ SqL K H r (ds.map fun d => V.str (sgn d)) ∧ b ≤ 12 ∧ (∀ d ∈ ds, d < 12) ∧ Q (.int (num b ds : Nat)) H
theorem okLNumber (T : TxtA K mg) : FnX P w K mg base CX0 false false 1 T.l_number.f T.l_number.fd pLNumber (spNumber K) := by
  refine funX0 (k := 0) T.l_number.F scLNumber (fun vs H Q E ⟨r, b, ds, e, _⟩ => e ▸ rfl) fun cdv A outer s H vs Q E p c ⟨r, b, ds, e, hr, hb, hd, q⟩ => ?_
  subst e
  refine ⟨_, pss_cons (ps_set (i := 2) scLNumber.nd rfl (Or.inl rfl) pe_int)
      (pss_cons (ps_for PassesOwn.never rfl (pi_list (pv 1)) (pg_name (i := 3) scLNumber.nd rfl (Or.inl rfl)) (pss_one (ps_set (i := 2) scLNumber.nd rfl (Or.inl rfl) (pe_op op_add (pe_op op_mul (pv 2) (pv 0)) (pe_bmS PySem.F.plainAttrs_str PySem.F.slot_str_index PySem.F.type_str_index (mt_indexX rfl takesN) pe_str (pa_cons (pv 3) pa_nil))))))
      (pss_one (ps_ret (pv 2)))), ?_⟩
  refine ⟨_, rfl, r, rfl, ⟨_, hr⟩, for_list (K := K) (a := r) (xs := ds.map fun d => V.str (sgn d)) (fun i σ H' => H' = H ∧ ∃ (u : Option V), σ = [some (.int b), some (.ref r), some (.int (num b (ds.take i) : Nat)), u]) ⟨rfl, _, rfl⟩ (fun i σ H' _ ⟨e, _⟩ => e ▸ hr) ?_ ?_⟩
  · rintro i x σ H' hi ⟨rfl, u, rfl⟩
    rw [List.getElem?_map] at hi
    cases hd' : ds[i]? with
    | none => rw [hd'] at hi; cases hi
    | some d =>
      rw [hd'] at hi
      cases hi
      have hil := (List.getElem?_eq_some_iff.mp hd').1
      have d12 := hd d (List.mem_of_getElem? hd')
      refine ⟨_, rfl, _, rfl, _, _, rfl, rfl, .inr ⟨by omega, by omega⟩, rfl, _, rfl, _, _, rfl, rfl, fun j e => ?_, fun e => by rw [sg_ix d12] at e; cases e⟩
      rw [sg_ix d12] at e
      cases e
      refine ⟨_, _, rfl, rfl, rfl, some (.str (sgn d)), ?_⟩
      have : ds.take (i + 1) = ds.take i ++ [d] := by rw [List.take_add_one, hd']; rfl
      rw [this, num_snoc, Int.natCast_add, Int.natCast_mul]
      rfl
  · rintro σ H' ⟨rfl, u, rfl⟩
    refine ⟨_, rfl, ?_⟩
    rw [List.length_map, List.take_length]
    exact q
/-! ### _law_spell -/
abbrev vLSpell : List Str := ["_law_base_here", "_law_places_here", "_law_number_here", "_law_found", "_law_turn", "_law_figure"]
abbrev pLSpell : List Str := ["_law_base_here", "_law_places_here", "_law_number_here"]
theorem scLSpell : FnScope vLSpell pLSpell (defScope (top 62)) := ⟨rfl, rfl, rfl, by decide +kernel, rfl, by decide +kernel, by decide +kernel⟩
def spSpell : Sp := fun vs H Q _ => ∃ (b n k : Nat), vs = [.int b, .int n, .int k] ∧ Fld b n ∧ ∀ H', Same H H' → Q (.str (wd (low b n k))) H'
theorem okLSpell (T : TxtA K mg) : FnX P w K mg base CX0 false false 1 T.l_spell.f T.l_spell.fd pLSpell spSpell := by
  refine funX0 (k := 0) T.l_spell.F scLSpell (fun vs H Q E ⟨b, n, k, e, _⟩ => e ▸ rfl) fun cdv A outer s H vs Q E p c ⟨b, n, k, e, F, q⟩ => ?_
  subst e
  have b2 := F.b2
  have b12 := F.b12
  have n6 := F.n6
  refine ⟨_, pss_cons (ps_set (i := 3) scLSpell.nd rfl (Or.inl rfl) pe_str)
      (pss_cons (ps_for PassesOwn.never rfl (pi_range1 rfl T.range (pa_cons (pv 1) pa_nil)) (pg_name (i := 4) scLSpell.nd rfl (Or.inl rfl)) (pss_cons (ps_asg (pe_callB call_divmod (by rfl) T.divmod (by decide +kernel) (pa_cons (pv 2) (pa_cons (pv 0) pa_nil))) (pg_tupX c.md (pgs_cons (pg_name (i := 2) scLSpell.nd rfl (Or.inl rfl)) (pgs_cons (pg_name (i := 5) scLSpell.nd rfl (Or.inl rfl)) pgs_nil))))
      (pss_one (ps_set (i := 3) scLSpell.nd rfl (Or.inl rfl) (pe_op op_add_str (pe_ix ix_str pe_str (pv 5) (fun _ _ => rfl)) (pv 3))))))
      (pss_one (ps_ret (pv 3)))), ?_⟩
  refine ⟨_, rfl, n, rfl, by omega, by omega, for_range (n := (n : Int).toNat) (fun i σ H' => Same H H' ∧ ∃ (u v : Option V), σ = [some (.int b), some (.int n), some (.int (k / b ^ i : Nat)), some (.str (wd (low b i k))), u, v]) ⟨Same.refl _, _, _, by rw [Nat.pow_zero, Nat.div_one]; rfl⟩ ?_ ?_⟩
  · rintro i σ H' hi ⟨h1, u, v, rfl⟩
    refine ⟨_, rfl, _, rfl, _, _, rfl, ⟨by omega, by omega⟩, fun t ht => ?_⟩
    refine ⟨t, _, rfl, SqT.of upd_same, rfl, _, _, rfl, _, _, rfl, rfl, ?_⟩
    have hf : (k / b ^ i) % b < 12 := by have := Nat.mod_lt (k / b ^ i) (show 0 < b by omega); omega
    refine ⟨_, rfl, ?_⟩
    rw [← Int.natCast_ediv, ← Int.natCast_emod]
    refine rSg hf ⟨_, rfl, _, _, rfl, rfl, ?_, h1.new ht, some (.int (0 + i)), some (.int ((k / b ^ i % b : Nat) : Int)), ?_⟩
    · rw [strlen_sgn, wd_length, low_length]; exact szL (by omega)
    · rw [low, wd_cons, Nat.pow_succ, ← Nat.div_div_eq_div_mul]
      rfl
  · rintro σ H' ⟨h1, u, v, rfl⟩
    rw [Int.toNat_natCast]
    exact ⟨_, rfl, q H' h1⟩
/-! ### _law_next -/
abbrev vLNext : List Str := ["_law_base_here", "_law_name", "_law_row", "_law_low", "_law_high"]
abbrev pLNext : List Str := ["_law_base_here", "_law_name"]
theorem scLNext : FnScope vLNext pLNext (defScope (top 63)) := ⟨rfl, rfl, rfl, by decide +kernel, rfl, by decide +kernel, by decide +kernel⟩
def spNext : Sp := fun vs H Q _ => ∃ (b n : Nat) (ds : List Nat), vs = [.int b, .str (wd ds)] ∧ Fld b n ∧ Wd b n ds ∧ ∀ H', Same H H' → Q (.str (wd (nxt b ds))) H'
theorem okLNext (T : TxtA K mg) : FnX P w K mg base CX0 false false 2 T.l_next.f T.l_next.fd pLNext spNext := by
  refine funX0 (k := 1) T.l_next.F scLNext (fun vs H Q E ⟨b, n, ds, e, _⟩ => e ▸ rfl) fun cdv A outer s H vs Q E p c ⟨b, n, ds, e, F, W, q⟩ => ?_
  subst e
  have b12 := F.b12
  have n6 := F.n6
  have wl := W.len
  refine ⟨_, pss_cons (ps_set (i := 2) scLNext.nd rfl (Or.inl rfl) (pe_callB cr_sortedS (by rfl) T.sorted (by decide +kernel) (pa_cons (pe_callTy (call_lstS rfl) (by rfl) T.list (by decide +kernel) (pa_cons (pv 1) pa_nil)) pa_nil)))
      (pss_cons (ps_par (i := 3) (j := 4) (by rfl) scLNext.nd rfl rfl (by decide) rfl rfl (pa_cons (pe_callX (okLNumber T) (c.mono (by decide)) nogd rfl T.l_number.mg T.l_number.kp T.l_number.b at00 (pa_cons (pv 0) (pa_cons (pv 2) pa_nil))) (pa_cons (pe_callX (okLNumber T) (c.mono (by decide)) nogd rfl T.l_number.mg T.l_number.kp T.l_number.b at00 (pa_cons (pv 0) (pa_cons (pe_revL (pv 2)) pa_nil))) pa_nil)) (by rfl))
      (pss_one (ps_ret (pe_callX (okLSpell T) (c.mono (by decide)) nogd rfl T.l_spell.mg T.l_spell.kp T.l_spell.b at00 (pa_cons (pv 0) (pa_cons (pe_callB call_len_str (by rfl) T.len PySem.boot_len (pa_cons (pv 1) pa_nil)) (pa_cons (pe_op op_sub (pv 4) (pv 3)) pa_nil))))))), ?_⟩
  refine ⟨_, rfl, _, rfl, by show (wd ds).length ≤ _; rw [wd_length]; exact szL (by omega), fun l hl => ?_⟩
  refine ⟨l, signs (wd ds), rfl, SqL.of upd_same, by rw [signs_wd, List.length_map]; omega, fun ys r hp hs hr => ?_⟩
  rw [signs_wd] at hp hr
  obtain rfl := asc_signs (W.lt12 F) hp hs
  have s1 : Same H (upd (upd H l (.lst ((signs (wd ds)).map V.str))) r (.lst (((asc ds).map sgn).map V.str))) := ((Same.refl _).new hl).new (by rw [signs_wd]; exact hr)
  have ha12 : ∀ d ∈ asc ds, d < 12 := (asc_wd W).lt12 F
  refine ⟨_, rfl, _, rfl, r, b, asc ds, rfl, SqL.of (by rw [upd_same, List.map_map]; rfl), b12, ha12, ?_⟩
  refine ⟨_, rfl, _, rfl, r, _, rfl, SqL.of upd_same, fun t ht => ?_⟩
  refine ⟨t, b, (asc ds).reverse, rfl, SqL.of (by rw [upd_same, List.map_map, ← List.map_reverse]; rfl), b12, fun d hd => ha12 d (List.mem_reverse.mp hd), ?_⟩
  refine ⟨_, _, rfl, ?_⟩
  have hn := hiLo_nonneg F W
  refine ⟨_, rfl, _, rfl, _, rfl, by rw [wd_length]; exact szL (by omega), _, rfl, _, rfl, _, _, rfl, rfl, b, n, (hiLo b ds).toNat, ?_, F, fun H' s2 => ?_⟩
  · rw [Int.toNat_of_nonneg hn, wd_length, wl]
    rfl
  · have := q H' ((s1.new ht).trans s2)
    unfold nxt at this
    rw [wl] at this
    exact this
end
end Spf
end
section
set_option maxHeartbeats 4000000
/-! The law's own figures: ways, rings, spreads. -/
namespace Spf
open PySem PySem.Spec PyProof.Rows L2 L2H HotX
/-- how long the list at r is -/
def lenAt (r : Addr) (H : Hp) : Nat := match H r with
  | some (.lst xs) => xs.length
  | _ => 0
theorem lenAt_of {r : Addr} {H : Hp} {xs : List V} (h : H r = some (.lst xs)) : lenAt r H = xs.length := by
  unfold lenAt; rw [h]
theorem cutV_from (xs : List V) (j : Nat) : cutV xs (some (j : Int)) none = xs.drop j := by
  unfold cutV
  rw [HT.sIx_nat, HT.sIx_none]
  by_cases h : j ≤ xs.length
  · rw [Nat.min_eq_left h, List.take_of_length_le (by rw [List.length_drop]; omega)]
  · rw [Nat.min_eq_right (by omega), Nat.sub_self, List.take_zero, List.drop_eq_nil_of_le (by omega)]
theorem cutV_to (xs : List V) (j : Nat) : cutV xs none (some (j : Int)) = xs.take j := by
  unfold cutV
  rw [HT.sIx_nat, HT.sIx_none, Nat.sub_zero, List.drop_zero]
  by_cases h : j ≤ xs.length
  · rw [Nat.min_eq_left h]
  · rw [Nat.min_eq_right (by omega), List.take_of_length_le (by omega), List.take_of_length_le (by omega)]
section
variable {P : Program} {w : World} {K : PySem.W.Frag} {mg : Str → Option Value} {base : Heap}
/-! ### _law_path -/
abbrev vLPath : List Str := ["_law_base_here", "_law_name", "_law_row"]
abbrev pLPath : List Str := ["_law_base_here", "_law_name"]
theorem scLPath : FnScope vLPath pLPath (defScope (top 65)) := ⟨rfl, rfl, rfl, by decide +kernel, rfl, by decide +kernel, by decide +kernel⟩
def spPath : Sp := fun vs H Q _ => ∃ (b n : Nat) (ds : List Nat), vs = [.int b, .str (wd ds)] ∧ Fld b n ∧ Wd b n ds ∧ ∀ (l r : Addr) (H' : Hp), Same H H' → H' l = some (.lst [.ref r, .int (steps b ds : Nat)]) → H l = none → H' r = some (.lst ((way b ds).map V.str)) → H r = none → (IsWay b ds (wayN b ds)) → Q (.ref l) H'
theorem okLPath (T : TxtA K mg) : FnX P w K mg base CX0 false false 3 T.l_path.f T.l_path.fd pLPath spPath := by
  refine funX0 (k := 2) T.l_path.F scLPath (fun vs H Q E ⟨b, n, ds, e, _⟩ => e ▸ rfl) fun cdv A outer s H vs Q E p c ⟨b, n, ds, e, F, W, q⟩ => ?_
  subst e
  refine ⟨_, pss_cons (ps_set (i := 2) scLPath.nd rfl (Or.inl rfl) (pe_lst pa_nil))
      (pss_cons (ps_while PassesOwn.never (pt_cmpR op_notIn_seq (pv 1) (pv 2) (by rfl)) (pss_cons (ps_expr (pe_bm PySem.F.plainAttrs_list PySem.F.slot_list_append PySem.F.type_list_append mt_append (pv 2) (pa_cons (pv 1) pa_nil)))
      (pss_one (ps_set (i := 1) scLPath.nd rfl (Or.inl rfl) (pe_callX (okLNext T) (c.mono (by decide)) nogd rfl T.l_next.mg T.l_next.kp T.l_next.b at00 (pa_cons (pv 0) (pa_cons (pv 1) pa_nil)))))))
      (pss_one (ps_ret (pe_lst (pa_cons (pv 2) (pa_cons (pe_bm PySem.F.plainAttrs_list PySem.F.slot_list_index PySem.F.type_list_index mt_index (pv 2) (pa_cons (pv 1) pa_nil)) pa_nil)))))), ?_⟩
  refine ⟨Nat.zero_le _, fun r hr => ?_⟩
  refine while_by (fun σ H' => ∃ m, σ = [some (.int b), some (.str (wd (orb b ds m))), some (.ref r)] ∧ Same H H' ∧ H' r = some (.lst (((orbs b ds m).map wd).map V.str)) ∧ (orbs b ds m).Nodup) (fun σ H' => 1000001 - lenAt r H')
    ⟨0, rfl, (Same.refl _).new hr, upd_same, by simp [orbs]⟩ ?_ ?_
  · rintro σ H' ⟨m, rfl, h1, h2, h3⟩
    refine ⟨_, rfl, _, rfl, r, _, rfl, .inl (SqL.of h2), rfl, flat_strs _, _, rfl, ?_⟩
    have hw := orb_wd F W m
    have hm := orbs_few F W h3
    have hsz := F.sz
    rw [inV_strs]
    by_cases hin : orb b ds m ∈ orbs b ds m
    · rw [decide_eq_true ((mem_wds F W hw).mpr hin)]
      have iw : IsWay b ds m := ⟨h3, hin⟩
      have e := iw.is
      refine ⟨_, rfl, _, rfl, .inl ⟨rfl, _, SqL.of h2⟩, _, rfl, one_index (SqL.of h2) ((mem_wds F W hw).mpr hin) ⟨szL (by show 2 ≤ 1000000; decide), fun l hl => ?_⟩⟩
      subst e
      exact q l r _ (h1.new hl) upd_same (h1.free hl) (by rw [upd_ne (ne_of_none h2 hl)]; exact h2) hr iw
    · rw [decide_eq_false (fun z => hin ((mem_wds F W hw).mp z))]
      refine ⟨_, rfl, .inl ⟨rfl, _, SqL.of h2⟩, _, rfl, r, _, _, rfl, rfl, h2, by simp only [List.length_map, orbs_length]; exact szLt (by omega), ?_⟩
      refine ⟨_, rfl, _, rfl, b, n, orb b ds m, rfl, F, hw, fun H2 s2 => ?_⟩
      have h4 : H2 r = some (.lst (((orbs b ds (m + 1)).map wd).map V.str)) := by
        refine s2 _ _ ?_
        rw [upd_same, orbs_succ]
        simp
      refine ⟨⟨m + 1, rfl, fun a o ha => s2 _ _ ?_, h4, orbs_nd h3 hin⟩, ?_⟩
      · rw [upd_ne (ne_of_none ha hr)]
        exact h1 _ _ ha
      · have := orbs_few F W (orbs_nd h3 hin)
        rw [lenAt_of h4, lenAt_of h2]
        simp only [List.length_map, orbs_length]
        omega
  · rintro σ H Q Q' hq ⟨v, e, v2, e2, p, xs, r, f, g, h', k, hk, q⟩
    exact ⟨v, e, v2, e2, p, xs, r, f, g, h', k, hk, hq _ _ q⟩
/-! ### _law_ring -/
abbrev vLRing : List Str := ["_law_base_here", "_law_name", "_law_row", "_law_begin", "_law_loop", "_law_at"]
abbrev pLRing : List Str := ["_law_base_here", "_law_name"]
theorem scLRing : FnScope vLRing pLRing (defScope (top 66)) := ⟨rfl, rfl, rfl, by decide +kernel, rfl, by decide +kernel, by decide +kernel⟩
def spRing : Sp := fun vs H Q _ => ∃ (b n : Nat) (ds : List Nat), vs = [.int b, .str (wd ds)] ∧ Fld b n ∧ Wd b n ds ∧ ∀ (l : Addr) (H' : Hp), Same H H' → H' l = some (.tup ((ring b ds).map V.str)) → H l = none → Q (.ref l) H'
theorem okLRing (T : TxtA K mg) : FnX P w K mg base CX0 false false 4 T.l_ring.f T.l_ring.fd pLRing spRing := by
  refine funX0 (k := 3) T.l_ring.F scLRing (fun vs H Q E ⟨b, n, ds, e, _⟩ => e ▸ rfl) fun cdv A outer s H vs Q E p c ⟨b, n, ds, e, F, W, q⟩ => ?_
  subst e
  refine ⟨_, pss_cons (ps_asg (pe_callX (okLPath T) (c.mono (by decide)) nogd rfl T.l_path.mg T.l_path.kp T.l_path.b at00 (pa_cons (pv 0) (pa_cons (pv 1) pa_nil))) (pg_unlX c.md (pgs_cons (pg_name (i := 2) scLRing.nd rfl (Or.inl rfl)) (pgs_cons (pg_name (i := 3) scLRing.nd rfl (Or.inl rfl)) pgs_nil))))
      (pss_cons (ps_set (i := 4) scLRing.nd rfl (Or.inl rfl) (pe_slice sl_list (pv 2) (po_some (pv 3)) po_none))
      (pss_cons (ps_set (i := 5) scLRing.nd rfl (Or.inl rfl) (pe_bm PySem.F.plainAttrs_list PySem.F.slot_list_index PySem.F.type_list_index mt_index (pv 4) (pa_cons (pe_callB (cr_minS c rfl) (by rfl) T.min (by decide +kernel) (pa_cons (pv 4) pa_nil)) pa_nil)))
      (pss_one (ps_ret (pe_callTy call_tuple_of (by rfl) T.tuple (by decide +kernel) (pa_cons (pe_op op_cat (pe_slice sl_list (pv 4) (po_some (pv 5)) po_none) (pe_slice sl_list (pv 4) po_none (po_some (pv 5)))) pa_nil)))))), ?_⟩
  refine ⟨_, rfl, _, rfl, b, n, ds, rfl, F, W, fun l r H1 s1 h1 hl h2 hr iw => ?_⟩
  refine ⟨l, _, rfl, SqL.of h1, rfl, _, _, rfl, _, _, rfl, rfl, ?_⟩
  refine ⟨_, rfl, _, rfl, _, rfl, r, _, rfl, SqL.of h2, fun t ht => ?_⟩
  rw [cutV_from, ← List.map_drop]
  have hlen : (way b ds).length ≤ 1000000 := by
    unfold way
    rw [List.length_map, orbs_length]
    exact Nat.le_trans (orbs_few F W iw.nd) F.sz
  have hst : steps b ds < (way b ds).length := by
    refine List.idxOf_lt_length_iff.mpr (List.mem_map_of_mem iw.back)
  have hne : (way b ds).drop (steps b ds) ≠ [] := by
    intro z
    have := congrArg List.length z
    rw [List.length_drop] at this
    simp at this
    omega
  generalize hlp : (way b ds).drop (steps b ds) = lp at hne
  have hlpl : lp.length ≤ 1000000 := by rw [← hlp, List.length_drop]; omega
  have hsp := SqL.of (K := K) (upd_same (H := H1) (a := t) (o := .lst (lp.map V.str)))
  refine ⟨_, rfl, .inl ⟨rfl, _, hsp⟩, _, rfl, ⟨t, lp, rfl, hsp, hne, one_index hsp (minS_mem hne) ?_⟩⟩
  refine ⟨_, rfl, _, rfl, _, rfl, t, _, rfl, hsp, fun u hu => ?_⟩
  have ntu : t ≠ u := ne_of_none (upd_same (H := H1) (a := t)) hu
  refine ⟨_, rfl, _, rfl, _, rfl, t, _, rfl, SqL.of (by rw [upd_ne ntu, upd_same]), fun x hx => ?_⟩
  rw [cutV_from] at hx
  rw [cutV_from, cutV_to]
  have nux : u ≠ x := ne_of_none upd_same hx
  refine ⟨u, x, _, _, rfl, rfl, (by rw [upd_ne nux, upd_same]), upd_same, ?_, fun y hy => ?_⟩
  · simp only [List.length_drop, List.length_take, List.length_map]
    exact szL (by omega)
  · refine ⟨y, _, rfl, .inl ⟨SqL.of upd_same, fun z hz => ?_⟩⟩
    have s2 := ((s1.new (o := .lst (lp.map V.str)) ht).new (o := .lst ((lp.map V.str).drop (lp.idxOf (minS lp)))) hu).new (o := .lst ((lp.map V.str).take (lp.idxOf (minS lp)))) hx
    refine q z _ ((s2.new hy).new hz) ?_ ((s2.new hy).free hz)
    rw [upd_same]
    unfold ring turnS
    rw [hlp, List.map_append, List.map_drop, List.map_take]
/-! ### _law_spreads -/
abbrev vLSpreads : List Str := ["_law_name", "_law_row", "_law_sign", "_law_k"]
abbrev pLSpreads : List Str := ["_law_name"]
theorem scLSpreads : FnScope vLSpreads pLSpreads (defScope (top 67)) := ⟨rfl, rfl, rfl, by decide +kernel, rfl, by decide +kernel, by decide +kernel⟩
def spSpreads : Sp := fun vs H Q _ => ∃ (b n : Nat) (ds : List Nat), vs = [.str (wd ds)] ∧ Fld b n ∧ Wd b n ds ∧ ∀ (l : Addr) (H' : Hp), Same H H' → H' l = some (.tup ((spr ds).map V.int)) → H l = none → Q (.ref l) H'
theorem okLSpreads (T : TxtA K mg) : FnX P w K mg base CX0 false false 1 T.l_spreads.f T.l_spreads.fd pLSpreads spSpreads := by
  refine funX0 (k := 0) T.l_spreads.F scLSpreads (fun vs H Q E ⟨b, n, ds, e, _⟩ => e ▸ rfl) fun cdv A outer s H vs Q E p c ⟨b, n, ds, e, F, W, q⟩ => ?_
  subst e
  have n6 := F.n6
  have wl := W.len
  have d12 := W.lt12 F
  refine ⟨_, pss_cons (ps_set (i := 1) scLSpreads.nd rfl (Or.inr rfl) (pe_callB cr_sorted (by rfl) T.sorted (by decide +kernel) (pa_cons (pe_lc rfl (own := [("_law_sign", 2)]) (g := gName 2) scLSpreads.nd (pi_str (pv 0)) (blkOk_by (N := vLSpreads) (sc := defScope (top 67)) (by decide +kernel)) (fun _ _ _ _ _ => (pg_name (i := 2) scLSpreads.nd rfl (Or.inl rfl))) (fun _ _ _ _ _ => pts_nil) (fun _ _ _ _ _ => (pe_bmSK K PySem.F.plainAttrs_str PySem.F.slot_str_index PySem.F.type_str_index (mt_indexX rfl takesN) pe_str (pa_cons (pv 2) pa_nil)))) pa_nil)))
      (pss_one (ps_ret (pe_callTy call_tuple_of (by rfl) T.tuple (by decide +kernel) (pa_cons (pe_lc rfl (own := [("_law_k", 3)]) (g := gName 3) scLSpreads.nd (pi_range1 rfl T.range (pa_cons (pe_op op_fdiv (pe_callB call_len_seq (by rfl) T.len PySem.boot_len (pa_cons (pv 1) pa_nil)) pe_int) pa_nil)) (blkOk_by (N := vLSpreads) (sc := defScope (top 67)) (by decide +kernel)) (fun _ _ _ _ _ => (pg_name (i := 3) scLSpreads.nd rfl (Or.inl rfl))) (fun _ _ _ _ _ => pts_nil) (fun _ _ _ _ _ => (pe_op op_sub (pe_ix (ix_listK K) (pv 1) (pe_op op_sub (pe_op op_sub (pe_callB (call_len_seqK K) (by rfl) T.len PySem.boot_len (pa_cons (pv 1) pa_nil)) pe_int) (pv 3)) (fun _ _ => rfl)) (pe_ix (ix_listK K) (pv 1) (pv 3) (fun _ _ => rfl))))) pa_nil)))), ?_⟩
  refine ⟨_, rfl, _, rfl, fun D hD => lc_mapStr (ys := (ds.map Int.ofNat).map V.int) hD (by simp [wd]) (by simp [wd]; omega) ?_ fun H2 s2 h2 => ?_⟩
  · intro i cc H3 Qe hc s3 hq
    obtain ⟨d, hd, rfl⟩ : ∃ d, ds[i]? = some d ∧ cc = sg d := by
      simp [wd] at hc
      obtain ⟨d, h1, h2⟩ := hc
      exact ⟨d, h1, h2.symm⟩
    have hdm := d12 d (List.mem_of_getElem? hd)
    refine ⟨rfl, rfl, rfl, _, rfl, one_sg hdm (hq _ _ ?_ (Same.refl _))⟩
    simp [hd]
  refine ⟨D, _, rfl, SqL.of h2, by simp; omega, fun ns' r hp hs hr => ?_⟩
  obtain rfl := asc_ints hp hs
  have hal : (asc ds).length = ds.length := (asc_perm ds).length_eq
  have s3 := s2.new (o := .lst (((asc ds).map Int.ofNat).map V.int)) hr
  have h3 := upd_same (H := H2) (a := r) (o := .lst (((asc ds).map Int.ofNat).map V.int))
  generalize upd H2 r (.lst (((asc ds).map Int.ofNat).map V.int)) = H3 at s3 h3 ⊢
  refine ⟨_, rfl, r, _, rfl, .inl (SqL.of h3), _, _, rfl, rfl, ⟨by decide, by decide⟩, _, rfl, ?_⟩
  have hlen : (((asc ds).map Int.ofNat).map V.int).length = n := by simp [hal, wl]
  rw [hlen]
  have hdiv : ((n : Int) / 2) = ((n / 2 : Nat) : Int) := by omega
  rw [hdiv]
  refine ⟨by omega, by omega, ?_⟩
  rw [Int.toNat_natCast]
  intro D2 hD2
  refine lc_mapRange (ys := (spr ds).map V.int) hD2 (by simp [spr, wl]) (by omega) (fun i H4 Qe hi s4 hq => ?_) (fun H4 s4 h4 => ?_)
  · refine ⟨rfl, rfl, ?_⟩
    have h4 := s4 _ _ h3
    have hz : (0 : Int) + (i : Int) = (i : Nat) := by omega
    rw [hz]
    have i1 : n - 1 - i < (asc ds).length := by omega
    have i2 : i < (asc ds).length := by omega
    refine ⟨_, rfl, _, rfl, r, _, rfl, .inl (SqL.of h4), _, _, rfl, rfl, _, rfl, _, _, rfl, rfl, ?_⟩
    rw [hlen]
    have hx : ((n : Int) - 1 - (i : Nat)) = ((n - 1 - i : Nat) : Int) := by omega
    refine ⟨r, _, ((n - 1 - i : Nat) : Int), .int (((asc ds).getD (n - 1 - i) 0 : Nat) : Int), rfl, congrArg V.int hx, SqL.of h4, atI_nat ?_, ?_⟩
    · rw [List.getElem?_map, List.getElem?_map, List.getElem?_eq_getElem i1, List.getD_eq_getElem?_getD, List.getElem?_eq_getElem i1]
      rfl
    refine ⟨_, rfl, _, rfl, r, _, _, .int (((asc ds).getD i 0 : Nat) : Int), rfl, rfl, SqL.of h4, atI_nat ?_, ?_⟩
    · rw [List.getElem?_map, List.getElem?_map, List.getElem?_eq_getElem i2, List.getD_eq_getElem?_getD, List.getElem?_eq_getElem i2]
      rfl
    refine ⟨_, _, rfl, rfl, hq _ _ ?_ (Same.refl _)⟩
    simp [spr, wl, hi]
  · refine ⟨D2, _, rfl, .inl ⟨SqL.of h4, fun l hl => ?_⟩⟩
    exact q l _ ((s3.trans s4).new hl) upd_same ((s3.trans s4).free hl)
end
end Spf
end
section
set_option maxHeartbeats 4000000
/-! States told twice: as values in the heap, and plain. -/
namespace Spf
open PySem PySem.Spec PyProof.Rows L2
structure Ent where
  b : Nat
  n : Nat
  ds : List Nat
structure EntOk (e : Ent) : Prop where
  F : Fld e.b e.n
  W : Wd e.b e.n e.ds
inductive Wish where
  | still (t : Str)
  | steps (t : Str) (k : Int)
  | ring (t : Str) (k : Int)
  | alike (t u : Str)
  | ends (t u : Str)
abbrev Held := List (Str × Ent)
structure Snap where
  held : Held
  hopes : List Wish
def look (hd : Held) (t : Str) : Option Ent := (hd.find? fun kv => decide (kv.1 = t)).map (·.2)
def putH (hd : Held) (t : Str) (e : Ent) : Held := if (hd.any fun kv => decide (kv.1 = t)) = true then hd.map (fun kv => if kv.1 = t then (kv.1, e) else kv) else hd ++ [(t, e)]
/-- the names of a wish -/
def Wish.tags : Wish → List Str
  | .still t => [t]
  | .steps t _ => [t]
  | .ring t _ => [t]
  | .alike t u => [t, u]
  | .ends t u => [t, u]
/-- a wish with a number asks a number that is not negative -/
def Wish.sane : Wish → Prop
  | .steps _ k => 0 ≤ k ∧ k ≤ 2000000
  | .ring _ k => 0 ≤ k ∧ k ≤ 2000000
  | _ => True
noncomputable def keeps (hd : Held) : Wish → Bool
  | .still t => match look hd t with
    | some e => decide (wd (nxt e.b e.ds) = wd e.ds)
    | none => false
  | .steps t k => match look hd t with
    | some e => decide ((Spf.steps e.b e.ds : Int) ≤ k)
    | none => false
  | .ring t k => match look hd t with
    | some e => decide (((Spf.ring e.b e.ds).length : Int) = k)
    | none => false
  | .alike t u => match look hd t, look hd u with
    | some e, some f => decide (e.b = f.b ∧ e.n = f.n) && decide (spr e.ds = spr f.ds)
    | _, _ => false
  | .ends t u => match look hd t, look hd u with
    | some e, some f => decide (e.b = f.b ∧ e.n = f.n) && decide (Spf.ring e.b e.ds = Spf.ring e.b f.ds)
    | _, _ => false
/-- the first that is not kept -/
noncomputable def brk (hd : Held) (ws : List Wish) : Option Nat := ws.findIdx? fun w => !keeps hd w
/-- all names of the wishes are there -/
def Named (hd : Held) (w : Wish) : Prop := ∀ t ∈ w.tags, (look hd t).isSome = true
/-! ### in the ghost heap G -/
def IsEnt (G : Hp) (a : Addr) (e : Ent) : Prop := G a = some (.lst [.int e.b, .int e.n, .str (wd e.ds)]) ∧ EntOk e
def IsPutK (G : Hp) (kv : Key × V) (te : Str × Ent) : Prop := kv.1 = Sum.inr te.1 ∧ ∃ p, kv.2 = .ref p ∧ IsEnt G p te.2
def IsHeld (G : Hp) (a : Addr) (hd : Held) : Prop := ∃ kvs, G a = some (.dK kvs) ∧ Paired (IsPutK G) kvs hd ∧ (hd.map (·.1)).Nodup
def wishV : Wish → List V
  | .still t => [.str "still", .str t]
  | .steps t k => [.str "steps", .str t, .int k]
  | .ring t k => [.str "ring", .str t, .int k]
  | .alike t u => [.str "alike", .str t, .str u]
  | .ends t u => [.str "ends", .str t, .str u]
def IsWish (G : Hp) (a : Addr) (w : Wish) : Prop := G a = some (.tup (wishV w)) ∧ w.sane
def IsHopes (G : Hp) (a : Addr) (ws : List Wish) : Prop := ∃ ps : List Addr, G a = some (.lst (ps.map V.ref)) ∧ Paired (IsWish G) ps ws
def IsSt (G : Hp) : Addr → List Snap → Prop
  | _, [] => False
  | a, c :: rest => ∃ (h o p : Addr) (ps : List Addr), G a = some (.lst [.ref h, .ref o, .ref p]) ∧ IsHeld G h c.held ∧ IsHopes G o c.hopes ∧ (∀ w ∈ c.hopes, Named c.held w) ∧ G p = some (.lst (ps.map V.ref)) ∧ ps.length = rest.length ∧ (rest ≠ [] → ∃ q, ps.getLast? = some q ∧ IsSt G q rest)
/-- the ghost heap is in the heap -/
def Le (G H : Hp) : Prop := ∀ a o, G a = some o → Rd H a o
theorem Le.same {G H H' : Hp} (l : Le G H) (s : Same H H') : Le G H' := fun a o h => s.rd (l a o h)
theorem Le.of {G H : Hp} (s : Same G H) : Le G H := fun a o h => .inl (s a o h)
theorem Le.lst {G H : Hp} {K : PySem.W.Frag} {a : Addr} {xs : List V} (l : Le G H) (h : G a = some (.lst xs)) : SqL K H a xs := .inl (l _ _ h)
theorem Le.tup {G H : Hp} {K : PySem.W.Frag} {a : Addr} {xs : List V} (l : Le G H) (h : G a = some (.tup xs)) : SqT K H a xs := .inl (l _ _ h)
theorem Le.dget {G H : Hp} {a : Addr} {kvs : List (Key × V)} {k : Key} (l : Le G H) (h : G a = some (.dK kvs)) : DGet H a (kV k) (valV kvs k) := .inl ⟨kvs, k, l _ _ h, rfl, rfl⟩
/-! ### it grows -/
theorem IsEnt.mono {G G' : Hp} {a : Addr} {e : Ent} (s : Same G G') (h : IsEnt G a e) : IsEnt G' a e := ⟨s _ _ h.1, h.2⟩
theorem IsHeld.mono {G G' : Hp} {a : Addr} {hd : Held} (s : Same G G') : IsHeld G a hd → IsHeld G' a hd := fun ⟨kvs, h1, h2, h3⟩ => ⟨kvs, s _ _ h1, h2.mono fun _ _ ⟨e, p, e2, hp⟩ => ⟨e, p, e2, hp.mono s⟩, h3⟩
theorem IsWish.mono {G G' : Hp} {a : Addr} {w : Wish} (s : Same G G') (h : IsWish G a w) : IsWish G' a w := ⟨s _ _ h.1, h.2⟩
theorem IsHopes.mono {G G' : Hp} {a : Addr} {ws : List Wish} (s : Same G G') : IsHopes G a ws → IsHopes G' a ws := fun ⟨ps, h1, h2⟩ => ⟨ps, s _ _ h1, h2.mono fun _ _ h => h.mono s⟩
theorem IsSt.mono {G G' : Hp} (s : Same G G') : ∀ {a : Addr} {cs : List Snap}, IsSt G a cs → IsSt G' a cs
  | _, [], h => h
  | a, c :: rest, ⟨h, o, p, ps, h1, h2, h3, h4, h5, h6, h7⟩ => ⟨h, o, p, ps, s _ _ h1, h2.mono s, h3.mono s, h4, s _ _ h5, h6, fun n => by
    obtain ⟨q, e, r⟩ := h7 n
    exact ⟨q, e, IsSt.mono s r⟩⟩
/-! ### dicts -/
theorem look_val {G : Hp} {t : Str} : ∀ {kvs : List (Key × V)} {hd : Held}, Paired (IsPutK G) kvs hd → (look hd t = none ∧ valV kvs (Sum.inr t) = none) ∨ ∃ p e, look hd t = some e ∧ valV kvs (Sum.inr t) = some (.ref p) ∧ IsEnt G p e
  | [], [], _ => .inl ⟨rfl, rfl⟩
  | (k, v) :: kvs, (u, e) :: hd, .cons ⟨h1, p, h2, h3⟩ r => by
    have h1' : k = Sum.inr u := h1
    have h2' : v = .ref p := h2
    subst h1' h2'
    by_cases h : u = t
    · subst h
      exact .inr ⟨p, e, by simp [look], by simp [valV], h3⟩
    · have ha : look ((u, e) :: hd) t = look hd t := by simp [look, h]
      have hb : valV ((Sum.inr u, V.ref p) :: kvs) (Sum.inr t : Key) = valV kvs (Sum.inr t : Key) := by
        have : ¬ ((Sum.inr u : Key) = Sum.inr t) := fun z => h (Sum.inr.inj z)
        simp [valV, this]
      rw [ha, hb]
      exact look_val r
theorem held_get {G : Hp} {a : Addr} {hd : Held} (h : IsHeld G a hd) {t : Str} : ∃ kvs, G a = some (.dK kvs) ∧ ((look hd t = none ∧ valV kvs (Sum.inr t) = none) ∨ ∃ p e, look hd t = some e ∧ valV kvs (Sum.inr t) = some (.ref p) ∧ IsEnt G p e) := by
  obtain ⟨kvs, h1, h2, h3⟩ := h
  exact ⟨kvs, h1, look_val h2⟩
theorem any_key {G : Hp} {t : Str} : ∀ {kvs : List (Key × V)} {hd : Held}, Paired (IsPutK G) kvs hd → (kvs.any fun kv => decide (kv.1 = (Sum.inr t : Key))) = hd.any fun kv => decide (kv.1 = t)
  | [], [], _ => rfl
  | (k, v) :: kvs, (u, e) :: hd, .cons ⟨h1, _⟩ r => by
    have h1' : k = Sum.inr u := h1
    subst h1'
    rw [List.any_cons, List.any_cons, any_key r]
    congr 1
    by_cases h : u = t
    · subst h; simp
    · have : ¬ ((Sum.inr u : Key) = Sum.inr t) := fun z => h (Sum.inr.inj z)
      simp [h, this]
theorem paired_put {G : Hp} {t : Str} {p : Addr} {e : Ent} (hp : IsEnt G p e) : ∀ {kvs : List (Key × V)} {hd : Held}, Paired (IsPutK G) kvs hd → Paired (IsPutK G) (kvs.map fun kv => if kv.1 = (Sum.inr t : Key) then (kv.1, V.ref p) else kv) (hd.map fun kv => if kv.1 = t then (kv.1, e) else kv)
  | [], [], _ => .nil
  | (k, v) :: kvs, (u, f) :: hd, .cons ⟨h1, q, h2, h3⟩ r => by
    have h1' : k = Sum.inr u := h1
    subst h1'
    refine .cons ?_ (paired_put hp r)
    by_cases h : u = t
    · subst h
      simp only [if_pos]
      exact ⟨rfl, p, rfl, hp⟩
    · have : ¬ ((Sum.inr u : Key) = Sum.inr t) := fun z => h (Sum.inr.inj z)
      simp only [h, this, if_false]
      exact ⟨rfl, q, h2, h3⟩
theorem putH_keys (hd : Held) (t : Str) (e : Ent) (h : (hd.map (·.1)).Nodup) : ((putH hd t e).map (·.1)).Nodup := by
  unfold putH
  split
  · have : ((hd.map fun kv => if kv.1 = t then (kv.1, e) else kv).map (·.1)) = hd.map (·.1) := by
      rw [List.map_map]
      refine List.map_congr_left fun kv _ => ?_
      show (if kv.1 = t then (kv.1, e) else kv).1 = kv.1
      split <;> rfl
    rw [this]; exact h
  · rename_i hn
    rw [List.map_append]
    refine List.nodup_append.mpr ⟨h, by simp, fun x hx y hy => ?_⟩
    have hy' : y = t := by simpa using hy
    subst hy'
    intro exy
    subst exy
    obtain ⟨kv, hkv, e⟩ := List.mem_map.mp hx
    exact hn (List.any_eq_true.mpr ⟨kv, hkv, decide_eq_true e⟩)
theorem IsHeld.put {G : Hp} {p : Addr} {hd : Held} {t : Str} {e : Ent} {kvs : List (Key × V)} (h2 : Paired (IsPutK G) kvs hd) (hn : (hd.map (·.1)).Nodup) (hp : IsEnt G p e) : Paired (IsPutK G) (putK kvs (Sum.inr t) (.ref p)) (putH hd t e) ∧ ((putH hd t e).map (·.1)).Nodup := by
  refine ⟨?_, putH_keys hd t e hn⟩
  unfold putK putH
  rw [any_key h2]
  split
  · exact paired_put hp h2
  · exact h2.snoc ⟨rfl, p, rfl, hp⟩
theorem look_put (hd : Held) (t u : Str) (e : Ent) : look (putH hd t e) u = if u = t then some e else look hd u := by
  unfold putH
  split
  · rename_i h
    by_cases hu : u = t
    · subst hu
      rw [if_pos rfl]
      induction hd with
      | nil => simp at h
      | cons kv hd ih =>
        obtain ⟨k, f⟩ := kv
        by_cases hk : k = u
        · subst hk; simp [look]
        · have h' : (hd.any fun kv => decide (kv.1 = u)) = true := by simpa [hk] using h
          have := ih h'
          simp only [look, List.map_cons, hk, if_false] at this ⊢
          rw [List.find?_cons_of_neg (by simp [hk])]
          exact this
    · rw [if_neg hu]
      clear h
      induction hd with
      | nil => rfl
      | cons kv hd ih =>
        obtain ⟨k, f⟩ := kv
        simp only [look, List.map_cons] at ih ⊢
        by_cases hk : k = t
        · subst hk
          have hku : ¬ k = u := fun z => hu z.symm
          simp only [if_pos]
          rw [List.find?_cons_of_neg (by simp [hku]), List.find?_cons_of_neg (by simp [hku])]
          exact ih
        · simp only [hk, if_false]
          by_cases hku : k = u
          · simp [hku]
          · rw [List.find?_cons_of_neg (by simp [hku]), List.find?_cons_of_neg (by simp [hku])]
            exact ih
  · rename_i h
    unfold look
    rw [List.find?_append]
    by_cases hu : u = t
    · subst hu
      rw [if_pos rfl]
      have : hd.find? (fun kv => decide (kv.1 = u)) = none := by
        rw [List.find?_eq_none]
        intro x hx hxu
        exact h (List.any_eq_true.mpr ⟨x, hx, hxu⟩)
      rw [this]
      simp
    · rw [if_neg hu]
      have : ¬ t = u := fun z => hu z.symm
      cases hf : hd.find? (fun kv => decide (kv.1 = u)) <;> simp [this]
theorem Named.put {hd : Held} {t : Str} {e : Ent} {w : Wish} (h : Named hd w) : Named (putH hd t e) w := fun u hu => by
  rw [look_put]
  split
  · rfl
  · exact h u hu
theorem Paired.at {α β : Type} {F : α → β → Prop} : ∀ {xs : List α} {ys : List β}, Paired F xs ys → ∀ (i : Nat) (y : β), ys[i]? = some y → ∃ x, xs[i]? = some x ∧ F x y
  | _, _, .nil, i, y, h => by simp at h
  | _, _, .cons hxy r, 0, y, h => by
    simp at h; subst h
    exact ⟨_, rfl, hxy⟩
  | _, _, .cons hxy r, i + 1, y, h => by
    have := Paired.at r i y (by simpa using h)
    simpa using this
theorem Paired.at' {α β : Type} {F : α → β → Prop} : ∀ {xs : List α} {ys : List β}, Paired F xs ys → ∀ (i : Nat) (x : α), xs[i]? = some x → ∃ y, ys[i]? = some y ∧ F x y
  | _, _, .nil, i, y, h => by simp at h
  | _, _, .cons hxy r, 0, y, h => by
    simp at h; subst h
    exact ⟨_, rfl, hxy⟩
  | _, _, .cons hxy r, i + 1, y, h => by
    have := Paired.at' r i y (by simpa using h)
    simpa using this
end Spf
end
section
set_option maxHeartbeats 4000000
/-! What the law's own side says of wishes. -/
namespace Spf
open PySem PySem.Spec PyProof.Rows L2 L2H HotX
theorem wd_ok {ds : List Nat} (h : ∀ d ∈ ds, d < 12) : PyData.strOk (wd ds) = true := by
  have sgl : ∀ d : Nat, d < 12 → sg d < 0x110000 := by
    have : ∀ d : Fin 12, sg d < 0x110000 := by decide +kernel
    exact fun d hd => this ⟨d, hd⟩
  simp only [PyData.strOk, wd, List.all_toArray, List.all_eq_true, List.mem_map, decide_eq_true_eq]
  rintro c ⟨d, hd, rfl⟩
  exact sgl d (h d hd)
theorem minS_le_mem {xs : List Str} {s : Str} (h : s ∈ turnS xs) : s ∈ xs := by
  unfold turnS at h
  rcases List.mem_append.mp h with h | h
  · exact List.mem_of_mem_drop h
  · exact List.mem_of_mem_take h
theorem way_ok {b n : Nat} {ds : List Nat} (F : Fld b n) (W : Wd b n ds) : SOk (way b ds) := fun s hs => by
  obtain ⟨x, hx, rfl⟩ := List.mem_map.mp hs
  obtain ⟨i, _, rfl⟩ := mem_orbs.mp hx
  exact wd_ok ((orb_wd F W i).lt12 F)
theorem ring_ok {b n : Nat} {ds : List Nat} (F : Fld b n) (W : Wd b n ds) : SOk (ring b ds) := fun s hs => way_ok F W s (List.mem_of_mem_drop (minS_le_mem hs))
section
variable {P : Program} {w : World} {K : PySem.W.Frag} {mg : Str → Option Value} {base : Heap}
/-! ### _law_keeps -/
abbrev vLKeeps : List Str := ["_law_held", "_law_hope_here", "_law_base_here", "_law_places_here", "_law_name", "_law_far"]
abbrev pLKeeps : List Str := ["_law_held", "_law_hope_here"]
theorem scLKeeps : FnScope vLKeeps pLKeeps (defScope (top 70)) := ⟨rfl, rfl, rfl, by decide +kernel, rfl, by decide +kernel, by decide +kernel⟩
def spKeeps : Sp := fun vs H Q _ => ∃ (G : Hp) (h p : Addr) (hd : Held) (w : Wish), vs = [.ref h, .ref p] ∧ Le G H ∧ IsHeld G h hd ∧ IsWish G p w ∧ Named hd w ∧ ∀ H', Same H H' → Q (.bl (keeps hd w)) H'
theorem okLKeeps (T : TxtA K mg) : FnX P w K mg base CX0 false false 5 T.l_keeps.f T.l_keeps.fd pLKeeps spKeeps := by
  refine funX0 (k := 4) T.l_keeps.F scLKeeps (fun vs H Q E ⟨G, h, p, hd, w, e, _⟩ => e ▸ rfl) fun cdv A outer s H vs Q E p c ⟨G, h, pw, hd, w, e, le, ih, iw, nm, q⟩ => ?_
  subst e
  refine ⟨_, pss_cons (ps_asg (pe_dget c.u1 (pv 0) (pe_ix ix_tup (pv 1) pe_int (fun _ _ => rfl)) (fun _ _ => rfl)) (pg_unlX c.md (pgs_cons (pg_name (i := 2) scLKeeps.nd rfl (Or.inl rfl)) (pgs_cons (pg_name (i := 3) scLKeeps.nd rfl (Or.inl rfl)) (pgs_cons (pg_name (i := 4) scLKeeps.nd rfl (Or.inl rfl)) pgs_nil)))))
      (pss_cons (ps_if (pt_cmpR op_eq (pe_ix ix_tup (pv 1) pe_int (fun _ _ => rfl)) pe_str (nomark _)) (pss_one (ps_ret (pe_cmpR op_eq (pe_callX (okLNext T) (c.mono (by decide)) nogd rfl T.l_next.mg T.l_next.kp T.l_next.b at00 (pa_cons (pv 2) (pa_cons (pv 4) pa_nil))) (pv 4) (nomark _)))) pss_nil)
      (pss_cons (ps_if (pt_cmpR op_eq (pe_ix ix_tup (pv 1) pe_int (fun _ _ => rfl)) pe_str (nomark _)) (pss_one (ps_ret (pe_cmpR op_le (pe_ix ix_list (pe_callX (okLPath T) (c.mono (by decide)) nogd rfl T.l_path.mg T.l_path.kp T.l_path.b at00 (pa_cons (pv 2) (pa_cons (pv 4) pa_nil))) pe_int (fun _ _ => rfl)) (pe_ix ix_tup (pv 1) pe_int (fun _ _ => rfl)) (nomark _)))) pss_nil)
      (pss_cons (ps_if (pt_cmpR op_eq (pe_ix ix_tup (pv 1) pe_int (fun _ _ => rfl)) pe_str (nomark _)) (pss_one (ps_ret (pe_cmpR op_eq (pe_callB call_len_seq (by rfl) T.len PySem.boot_len (pa_cons (pe_callX (okLRing T) (c.mono (by decide)) nogd rfl T.l_ring.mg T.l_ring.kp T.l_ring.b at00 (pa_cons (pv 2) (pa_cons (pv 4) pa_nil))) pa_nil)) (pe_ix ix_tup (pv 1) pe_int (fun _ _ => rfl)) (nomark _)))) pss_nil)
      (pss_cons (ps_set (i := 5) scLKeeps.nd rfl (Or.inl rfl) (pe_dget c.u1 (pv 0) (pe_ix ix_tup (pv 1) pe_int (fun _ _ => rfl)) (fun _ _ => rfl)))
      (pss_cons (ps_if (pt_cmpR (op_neD c.rm.units) (pe_lst (pa_cons (pv 2) (pa_cons (pv 3) pa_nil))) (pe_callTy call_list_of (by rfl) T.list (by decide +kernel) (pa_cons (pe_slice sl_list (pv 5) po_none (po_some pe_int)) pa_nil)) (nomark _)) (pss_one (ps_ret pe_bl)) pss_nil)
      (pss_cons (ps_if (pt_cmpR op_eq (pe_ix ix_tup (pv 1) pe_int (fun _ _ => rfl)) pe_str (nomark _)) (pss_one (ps_ret (pe_cmpR (op_eqD c.rm.units) (pe_callX (okLSpreads T) (c.mono (by decide)) nogd rfl T.l_spreads.mg T.l_spreads.kp T.l_spreads.b at00 (pa_cons (pv 4) pa_nil)) (pe_callX (okLSpreads T) (c.mono (by decide)) nogd rfl T.l_spreads.mg T.l_spreads.kp T.l_spreads.b at00 (pa_cons (pe_ix ix_list (pv 5) pe_int (fun _ _ => rfl)) pa_nil)) (nomark _)))) pss_nil)
      (pss_one (ps_ret (pe_cmpR (op_eqD c.rm.units) (pe_callX (okLRing T) (c.mono (by decide)) nogd rfl T.l_ring.mg T.l_ring.kp T.l_ring.b at00 (pa_cons (pv 2) (pa_cons (pv 4) pa_nil))) (pe_callX (okLRing T) (c.mono (by decide)) nogd rfl T.l_ring.mg T.l_ring.kp T.l_ring.b at00 (pa_cons (pv 2) (pa_cons (pe_ix ix_list (pv 5) pe_int (fun _ _ => rfl)) pa_nil))) (nomark _)))))))))), ?_⟩
  have hL := fun t => held_get ih (t := t)
  have hn : ∀ t ∈ w.tags, ∃ (kvs : List (Key × V)) (p : Addr) (e : Ent), G h = some (.dK kvs) ∧ look hd t = some e ∧ valV kvs (Sum.inr t) = some (.ref p) ∧ IsEnt G p e := fun t ht => by
    obtain ⟨kvs, hk, hv⟩ := hL t
    have hs := nm t ht
    rcases hv with ⟨h1, _⟩ | ⟨p, e, h1, h2, h3⟩
    · rw [h1] at hs; cases hs
    · exact ⟨kvs, p, e, hk, h1, h2, h3⟩
  have tp := le.tup (K := K) iw.1
  have dg : ∀ (H' : Hp) (t : Str) (p : Addr) (e : Ent) (kvs : List (Key × V)), Same H H' → G h = some (.dK kvs) → valV kvs (Sum.inr t) = some (.ref p) → DGet H' h (.str t) (some (.ref p)) := fun H' t p e kvs s hk hv => by
    have := (le.same s).dget (k := Sum.inr t) hk
    rw [hv] at this
    exact this
  cases w with
  | still t =>
    obtain ⟨kvs, pe, ⟨b, n, ds⟩, hk, hl, hv, he, ok⟩ := hn t (by simp [Wish.tags])
    refine ⟨_, rfl, _, rfl, pw, _, _, _, rfl, rfl, tp, rfl, h, _, rfl, dg H t pe ⟨b, n, ds⟩ kvs (Same.refl _) hk hv, pe, _, rfl, le.lst he, rfl, _, _, rfl, _, _, rfl, _, _, rfl, rfl, ?_⟩
    refine ⟨_, rfl, pw, _, _, _, rfl, rfl, tp, rfl, rfl, _, rfl, ifT (by decide +kernel) ?_⟩
    refine ⟨_, rfl, _, rfl, b, n, ds, rfl, ok.F, ok.W, fun H' s' => ⟨_, rfl, rfl, ?_⟩⟩
    have e1 : decide (V.str (wd (nxt b ds)) = V.str (wd ds)) = decide (wd (nxt b ds) = wd ds) := by simp
    rw [e1]
    have := q H' s'
    simp only [keeps, hl] at this
    exact this
  | steps t k =>
    obtain ⟨kvs, pe, ⟨b, n, ds⟩, hk, hl, hv, he, ok⟩ := hn t (by simp [Wish.tags])
    refine ⟨_, rfl, _, rfl, pw, _, _, _, rfl, rfl, tp, rfl, h, _, rfl, dg H t pe ⟨b, n, ds⟩ kvs (Same.refl _) hk hv, pe, _, rfl, le.lst he, rfl, _, _, rfl, _, _, rfl, _, _, rfl, rfl, ?_⟩
    refine ⟨_, rfl, pw, _, _, _, rfl, rfl, tp, rfl, rfl, _, rfl, ifF (by decide +kernel) ?_⟩
    refine ⟨_, rfl, pw, _, _, _, rfl, rfl, tp, rfl, rfl, _, rfl, ifT (by decide +kernel) ?_⟩
    refine ⟨_, rfl, _, rfl, b, n, ds, rfl, ok.F, ok.W, fun l r H' s' h1 _ _ _ _ => ⟨l, _, _, _, rfl, rfl, SqL.of h1, rfl, _, rfl, pw, _, _, _, rfl, rfl, s'.seqT tp, rfl, _, _, rfl, rfl, ?_⟩⟩
    have := q H' s'
    simp only [keeps, hl] at this
    exact this
  | ring t k =>
    obtain ⟨kvs, pe, ⟨b, n, ds⟩, hk, hl, hv, he, ok⟩ := hn t (by simp [Wish.tags])
    refine ⟨_, rfl, _, rfl, pw, _, _, _, rfl, rfl, tp, rfl, h, _, rfl, dg H t pe ⟨b, n, ds⟩ kvs (Same.refl _) hk hv, pe, _, rfl, le.lst he, rfl, _, _, rfl, _, _, rfl, _, _, rfl, rfl, ?_⟩
    refine ⟨_, rfl, pw, _, _, _, rfl, rfl, tp, rfl, rfl, _, rfl, ifF (by decide +kernel) ?_⟩
    refine ⟨_, rfl, pw, _, _, _, rfl, rfl, tp, rfl, rfl, _, rfl, ifF (by decide +kernel) ?_⟩
    refine ⟨_, rfl, pw, _, _, _, rfl, rfl, tp, rfl, rfl, _, rfl, ifT (by decide +kernel) ?_⟩
    refine ⟨_, rfl, _, rfl, b, n, ds, rfl, ok.F, ok.W, fun l H' s' h1 _ => ⟨l, _, rfl, .inr (SqT.of h1), _, rfl, pw, _, _, _, rfl, rfl, s'.seqT tp, rfl, rfl, ?_⟩⟩
    have := q H' s'
    simp only [keeps, hl] at this
    rw [List.length_map]
    have e1 : decide (V.int ((ring b ds).length : Nat) = V.int k) = decide (((ring b ds).length : Int) = k) := by simp
    rw [e1]
    exact this
  | alike t u =>
    obtain ⟨kvs, pe, ⟨b, n, ds⟩, hk, hl, hv, he, ok⟩ := hn t (by simp [Wish.tags])
    obtain ⟨kvs', pf, ⟨b', n', ds'⟩, hk', hl'0, hv', he', ok'⟩ := hn u (by simp [Wish.tags])
    obtain rfl : kvs = kvs' := by rw [hk] at hk'; cases hk'; rfl
    refine ⟨_, rfl, _, rfl, pw, _, _, _, rfl, rfl, tp, rfl, h, _, rfl, dg H t pe ⟨b, n, ds⟩ kvs (Same.refl _) hk hv, pe, _, rfl, le.lst he, rfl, _, _, rfl, _, _, rfl, _, _, rfl, rfl, ?_⟩
    refine ⟨_, rfl, pw, _, _, _, rfl, rfl, tp, rfl, rfl, _, rfl, ifF (by decide +kernel) ?_⟩
    refine ⟨_, rfl, pw, _, _, _, rfl, rfl, tp, rfl, rfl, _, rfl, ifF (by decide +kernel) ?_⟩
    refine ⟨_, rfl, pw, _, _, _, rfl, rfl, tp, rfl, rfl, _, rfl, ifF (by decide +kernel) ?_⟩
    refine ⟨_, rfl, _, rfl, pw, _, _, _, rfl, rfl, tp, rfl, h, _, rfl, dg H u pf ⟨b', n', ds'⟩ kvs (Same.refl _) hk hv', ?_⟩
    refine ⟨_, rfl, _, rfl, szL (by show 2 ≤ 1000000; decide), fun l hl' => ?_⟩
    have s1 := (Same.refl H).new (o := .lst [.int b, .int n]) hl'
    refine ⟨_, rfl, _, rfl, pf, _, rfl, (le.same s1).lst he', fun x hx => ?_⟩
    have s2 := s1.new (o := .lst [.int b', .int n']) hx
    have nlx : l ≠ x := ne_of_none upd_same hx
    refine ⟨x, _, rfl, .inl (SqL.of upd_same), fun y hy => ?_⟩
    have s3 := s2.new (o := .lst [.int b', .int n']) hy
    have nly : l ≠ y := ne_of_none (by rw [upd_ne nlx, upd_same]) hy
    refine rNe_lstI (xs := [(b : Int), (n : Int)]) (ys := [(b' : Int), (n' : Int)]) (SqL.of (by rw [upd_ne nly, upd_ne nlx, upd_same]; rfl)) (SqL.of (by rw [upd_same]; rfl)) ⟨_, rfl, ?_⟩
    have ed : decide ([(b : Int), (n : Int)] = [(b' : Int), (n' : Int)]) = decide (b = b' ∧ n = n') := by
      rw [Bool.eq_iff_iff]
      simp
      omega
    rw [ed]
    have fin := q
    simp only [keeps, hl, hl'0] at fin
    by_cases hbn : b = b' ∧ n = n'
    · rw [decide_eq_true hbn] at fin ⊢
      obtain ⟨rfl, rfl⟩ := hbn
      refine ifF rfl ?_
      refine ⟨_, rfl, pw, _, _, _, rfl, rfl, s3.seqT tp, rfl, rfl, _, rfl, ifT (by decide +kernel) ?_⟩
      refine ⟨_, rfl, b, n, ds, rfl, ok.F, ok.W, fun t1 H4 s4 h4 _ => ⟨_, rfl, pf, _, _, _, rfl, rfl, (le.same (s3.trans s4)).lst he', rfl, b, n, ds', rfl, ok'.F, ok'.W, fun t2 H5 s5 h5 _ => ?_⟩⟩
      exact rEq_tupI (s5.seqT (SqT.of h4)) (SqT.of h5) (fin _ ((s3.trans s4).trans s5))
    · rw [decide_eq_false hbn] at fin ⊢
      exact ifT rfl (fin _ s3)
  | ends t u =>
    obtain ⟨kvs, pe, ⟨b, n, ds⟩, hk, hl, hv, he, ok⟩ := hn t (by simp [Wish.tags])
    obtain ⟨kvs', pf, ⟨b', n', ds'⟩, hk', hl'0, hv', he', ok'⟩ := hn u (by simp [Wish.tags])
    obtain rfl : kvs = kvs' := by rw [hk] at hk'; cases hk'; rfl
    refine ⟨_, rfl, _, rfl, pw, _, _, _, rfl, rfl, tp, rfl, h, _, rfl, dg H t pe ⟨b, n, ds⟩ kvs (Same.refl _) hk hv, pe, _, rfl, le.lst he, rfl, _, _, rfl, _, _, rfl, _, _, rfl, rfl, ?_⟩
    refine ⟨_, rfl, pw, _, _, _, rfl, rfl, tp, rfl, rfl, _, rfl, ifF (by decide +kernel) ?_⟩
    refine ⟨_, rfl, pw, _, _, _, rfl, rfl, tp, rfl, rfl, _, rfl, ifF (by decide +kernel) ?_⟩
    refine ⟨_, rfl, pw, _, _, _, rfl, rfl, tp, rfl, rfl, _, rfl, ifF (by decide +kernel) ?_⟩
    refine ⟨_, rfl, _, rfl, pw, _, _, _, rfl, rfl, tp, rfl, h, _, rfl, dg H u pf ⟨b', n', ds'⟩ kvs (Same.refl _) hk hv', ?_⟩
    refine ⟨_, rfl, _, rfl, szL (by show 2 ≤ 1000000; decide), fun l hl' => ?_⟩
    have s1 := (Same.refl H).new (o := .lst [.int b, .int n]) hl'
    refine ⟨_, rfl, _, rfl, pf, _, rfl, (le.same s1).lst he', fun x hx => ?_⟩
    have s2 := s1.new (o := .lst [.int b', .int n']) hx
    have nlx : l ≠ x := ne_of_none upd_same hx
    refine ⟨x, _, rfl, .inl (SqL.of upd_same), fun y hy => ?_⟩
    have s3 := s2.new (o := .lst [.int b', .int n']) hy
    have nly : l ≠ y := ne_of_none (by rw [upd_ne nlx, upd_same]) hy
    refine rNe_lstI (xs := [(b : Int), (n : Int)]) (ys := [(b' : Int), (n' : Int)]) (SqL.of (by rw [upd_ne nly, upd_ne nlx, upd_same]; rfl)) (SqL.of (by rw [upd_same]; rfl)) ⟨_, rfl, ?_⟩
    have ed : decide ([(b : Int), (n : Int)] = [(b' : Int), (n' : Int)]) = decide (b = b' ∧ n = n') := by
      rw [Bool.eq_iff_iff]
      simp
      omega
    rw [ed]
    have fin := q
    simp only [keeps, hl, hl'0] at fin
    by_cases hbn : b = b' ∧ n = n'
    · rw [decide_eq_true hbn] at fin ⊢
      obtain ⟨rfl, rfl⟩ := hbn
      refine ifF rfl ?_
      refine ⟨_, rfl, pw, _, _, _, rfl, rfl, s3.seqT tp, rfl, rfl, _, rfl, ifF (by decide +kernel) ?_⟩
      refine ⟨_, rfl, _, rfl, b, n, ds, rfl, ok.F, ok.W, fun t1 H4 s4 h4 _ => ⟨_, rfl, _, rfl, pf, _, _, _, rfl, rfl, (le.same (s3.trans s4)).lst he', rfl, b, n, ds', rfl, ok'.F, ok'.W, fun t2 H5 s5 h5 _ => ?_⟩⟩
      exact rEq_tupS (ring_ok ok.F ok.W) (ring_ok ok'.F ok'.W) (s5.seqT (SqT.of h4)) (SqT.of h5) (fin _ ((s3.trans s4).trans s5))
    · rw [decide_eq_false hbn] at fin ⊢
      exact ifT rfl (fin _ s3)
/-! ### _law_broken -/
abbrev vLBroken : List Str := ["_law_held", "_law_hopes", "_law_k"]
abbrev pLBroken : List Str := ["_law_held", "_law_hopes"]
theorem scLBroken : FnScope vLBroken pLBroken (defScope (top 71)) := ⟨rfl, rfl, rfl, by decide +kernel, rfl, by decide +kernel, by decide +kernel⟩
def spBroken : Sp := fun vs H Q _ => ∃ (G : Hp) (h p : Addr) (hd : Held) (ws : List Wish), vs = [.ref h, .ref p] ∧ Le G H ∧ IsHeld G h hd ∧ IsHopes G p ws ∧ (∀ w ∈ ws, Named hd w) ∧ ws.length ≤ 1000 ∧
  (∀ H', Same H H' → brk hd ws = none → Q .non H') ∧ (∀ (k : Nat) (l : Addr) H', Same H H' → brk hd ws = some k → H' l = some (.lst [.str "Broken", .int k]) → H l = none → Q (.ref l) H')
theorem okLBroken (T : TxtA K mg) : FnX P w K mg base CX0 false false 6 T.l_broken.f T.l_broken.fd pLBroken spBroken := by
  refine funX0 (k := 5) T.l_broken.F scLBroken (fun vs H Q E ⟨G, h, p, hd, w, e, _⟩ => e ▸ rfl) fun cdv A outer s H vs Q E p c ⟨G, h, pw, hd, ws, e, le, ih, ⟨ps, hp, pr⟩, nm, hlen, q1, q2⟩ => ?_
  subst e
  refine ⟨_, pss_cons (ps_for PassesOwn.never rfl (pi_range1 rfl T.range (pa_cons (pe_callB call_len_seq (by rfl) T.len PySem.boot_len (pa_cons (pv 1) pa_nil)) pa_nil)) (pg_name (i := 2) scLBroken.nd rfl (Or.inl rfl)) (pss_one (ps_if (pt_not (pt_val (pe_callX (okLKeeps T) (c.mono (by decide)) nogd rfl T.l_keeps.mg T.l_keeps.kp T.l_keeps.b at00 (pa_cons (pv 0) (pa_cons (pe_ix ix_list (pv 1) (pv 2) (fun _ _ => rfl)) pa_nil))))) (pss_one (ps_ret (pe_lst (pa_cons pe_str (pa_cons (pv 2) pa_nil))))) pss_nil)))
      (pss_one (ps_ret pe_non)), ?_⟩
  have lp := le.lst (K := K) hp
  have ln : (ps.map V.ref).length = ws.length := by rw [List.length_map, pr.length]
  refine ⟨_, rfl, pw, _, rfl, .inl lp, _, rfl, by omega, by omega, ?_⟩
  rw [ln, Int.toNat_natCast]
  refine for_range (fun i σ H' => Same H H' ∧ (∃ u, σ = [some (.ref h), some (.ref pw), u]) ∧ ∀ j, j < i → ∀ w', ws[j]? = some w' → keeps hd w' = true) ⟨Same.refl _, ⟨_, rfl⟩, fun j hj => by omega⟩ ?_ ?_
  · rintro i σ H' hi ⟨s1, ⟨u, rfl⟩, hk⟩
    obtain ⟨pa, ha, iw⟩ := Paired.at pr i _ (List.getElem?_eq_getElem hi)
    have hz : (0 : Int) + (i : Int) = (i : Nat) := by omega
    refine ⟨_, rfl, _, rfl, _, rfl, pw, _, ((i : Nat) : Int), .ref pa, rfl, congrArg V.int hz, s1.seq lp, atI_nat (by rw [List.getElem?_map, ha]; rfl), G, h, pa, hd, ws[i], rfl, le.same s1, ih, iw, nm _ (List.getElem_mem hi), fun H2 s2 => ⟨_, rfl, ?_⟩⟩
    cases hkw : keeps hd ws[i] with
    | true =>
      refine ifF rfl ?_
      refine ⟨s1.trans s2, ⟨_, rfl⟩, fun j hj w' hw' => ?_⟩
      rcases Nat.lt_succ_iff_lt_or_eq.mp hj with hj | rfl
      · exact hk j hj w' hw'
      · rw [List.getElem?_eq_getElem hi] at hw'
        cases hw'
        exact hkw
    | false =>
      refine ifT rfl ?_
      refine ⟨_, rfl, szL (by show 2 ≤ 1000000; decide), fun l hl => ?_⟩
      rw [hz]
      refine q2 i l _ ((s1.trans s2).new hl) ?_ upd_same ((s1.trans s2).free hl)
      unfold brk
      rw [List.findIdx?_eq_some_iff_getElem]
      refine ⟨hi, by simp [hkw], fun j hj => ?_⟩
      have := hk j hj ws[j] (List.getElem?_eq_getElem (by omega))
      simp [this]
  · rintro σ H' ⟨s1, ⟨u, rfl⟩, hk⟩
    refine q1 H' s1 ?_
    unfold brk
    rw [List.findIdx?_eq_none_iff]
    intro x hx
    obtain ⟨j, hj, rfl⟩ := List.getElem_of_mem hx
    have := hk j hj ws[j] (List.getElem?_eq_getElem hj)
    simp [this]
end
end Spf
end
section
set_option maxHeartbeats 4000000
/-! Deeds and what is due. -/
namespace Spf
open PySem PySem.Spec PyProof.Rows L2 LamX
inductive Deed where
  | undo
  | put (t : Str) (e : Ent)
  | wish (w : Wish)
  | lift (i : Int)
inductive Told where
  | told
  | nothing
  | broken (k : Nat)
  | unknown (t : Str)
  | badIndex (i : Int)
def toldV : Told → List V
  | .told => [.str "told", .non]
  | .nothing => [.str "NothingToUndo", .non]
  | .broken k => [.str "Broken", .int k]
  | .unknown t => [.str "UnknownName", .str t]
  | .badIndex i => [.str "InvalidIndex", .int i]
def IsDeed (G : Hp) (a : Addr) : Deed → Prop
  | .undo => G a = some (.lst [.str "undo"])
  | .put t e => ∃ p, G a = some (.lst [.str "put", .str t, .ref p]) ∧ IsEnt G p e
  | .wish w => ∃ p, G a = some (.lst [.str "wish", .ref p]) ∧ IsWish G p w
  | .lift i => G a = some (.lst [.str "lift", .int i])
theorem IsDeed.mono {G G' : Hp} {a : Addr} (s : Same G G') : ∀ {d : Deed}, IsDeed G a d → IsDeed G' a d
  | .undo, h => s _ _ h
  | .put _ _, ⟨p, h, e⟩ => ⟨p, s _ _ h, e.mono s⟩
  | .wish _, ⟨p, h, e⟩ => ⟨p, s _ _ h, e.mono s⟩
  | .lift _, h => s _ _ h
/-- the first name that is not there -/
def strange (hd : Held) (w : Wish) : Option Str := w.tags.find? fun t => (look hd t).isNone
noncomputable def due : List Snap → Deed → Told × List Snap
  | [], _ => (.told, [])
  | c :: rest, .undo => match rest with
    | [] => (.nothing, [c])
    | r :: rs => (.told, r :: rs)
  | c :: rest, .put t e => match brk (putH c.held t e) c.hopes with
    | none => (.told, ⟨putH c.held t e, c.hopes⟩ :: c :: rest)
    | some k => (.broken k, c :: rest)
  | c :: rest, .wish w => match strange c.held w with
    | some t => (.unknown t, c :: rest)
    | none => match brk c.held (c.hopes ++ [w]) with
      | none => (.told, ⟨c.held, c.hopes ++ [w]⟩ :: c :: rest)
      | some k => (.broken k, c :: rest)
  | c :: rest, .lift i => if 0 ≤ i ∧ i < c.hopes.length then (.told, ⟨c.held, c.hopes.take i.toNat ++ c.hopes.drop (i.toNat + 1)⟩ :: c :: rest) else (.badIndex i, c :: rest)
/-- nothing stands at x, or a table -/
def Fresh (H : Hp) (x : Addr) : Prop := ∀ o, H x = some o → ∃ ps, o = .tbl ps
theorem Fresh.of {H : Hp} {x : Addr} (h : H x = none) : Fresh H x := fun o e => by rw [h] at e; cases e
theorem Fresh.ext {H H' : Hp} {x : Addr} (e : ExtN H H') (h : Fresh H' x) : Fresh H x := fun o ho => by
  by_cases t : ∃ ps, o = .tbl ps
  · exact t
  · exact h o (e _ _ ho fun ps z => t ⟨ps, z⟩)
/-- the ghost heap grows, at addresses that were free -/
structure Grow (H G H' G' : Hp) : Prop where
  same : Same G G'
  new : ∀ x, G x = none → G' x ≠ none → Fresh H x
  le : Same G' H'
theorem Grow.off {H G H' G' : Hp} {x : Addr} {o : HO} (g : Grow H G H' G') (h : H x = some o) (hG : G x = Option.none) (ho : ∀ ps, o ≠ .tbl ps) : G' x = Option.none := by
  cases e : G' x with
  | none => rfl
  | some u =>
    obtain ⟨ps, z⟩ := g.new x hG (by rw [e]; exact fun z => by cases z) o h
    exact absurd z (ho ps)
theorem Grow.refl {H G : Hp} (l : Same G H) : Grow H G H G := ⟨Same.refl _, fun x h h' => absurd h h', l⟩
theorem Grow.of {H G H' : Hp} (l : Same G H) (s : Same H H') : Grow H G H' G := ⟨Same.refl _, fun x h h' => absurd h h', l.trans s⟩
theorem Grow.trans {H G H1 G1 H2 G2 : Hp} (a : Grow H G H1 G1) (b : Grow H1 G1 H2 G2) (k : ∀ x, Fresh H1 x → Fresh H x) : Grow H G H2 G2 := ⟨a.same.trans b.same, fun x h h' => by
  by_cases e : G1 x = none
  · exact k x (b.new x e h')
  · exact a.new x h e, b.le⟩
/-- a new object is put under the ghost -/
theorem Grow.addF {H G H1 G1 : Hp} {a : Addr} {o : HO} (g : Grow H G H1 G1) (h0 : Fresh H a) (hG : G1 a = none) (h : H1 a = some o) : Grow H G H1 (upd G1 a o) := by
  refine ⟨fun b u hb => ?_, fun x hx hx' => ?_, fun b u hb => ?_⟩
  · have := g.same _ _ hb
    have n : b ≠ a := ne_of_none this hG
    rw [upd_ne n]
    exact this
  · by_cases e : x = a
    · subst e; exact h0
    · rw [upd_ne e] at hx'
      exact g.new x hx hx'
  · by_cases e : b = a
    · subst e
      rw [upd_same] at hb
      cases hb
      exact h
    · rw [upd_ne e] at hb
      exact g.le _ _ hb
theorem Grow.add {H G H1 G1 : Hp} {a : Addr} {o : HO} (g : Grow H G H1 G1) (h0 : H a = none) (hG : G1 a = none) (h : H1 a = some o) : Grow H G H1 (upd G1 a o) := g.addF (.of h0) hG h
theorem Le.free {G H : Hp} {a : Addr} (l : Le G H) (h : H a = none) : G a = none := by
  cases e : G a with
  | none => rfl
  | some u => exact absurd h (l _ _ e).not_none
theorem Grow.later {H G H1 G1 H2 : Hp} (g : Grow H G H1 G1) (s : Same H1 H2) : Grow H G H2 G1 := ⟨g.same, g.new, g.le.trans s⟩
/-- a new state behind an old one -/
theorem push_st {H H1 H2 G G1 : Hp} {a p1 pk y z : Addr} {ps : List Addr} {c c' : Snap} {rest : List Snap} (g : Grow H G H1 G1) (sh : Same H H1) (ia : IsSt G a (c :: rest)) (hl : ps.length = rest.length)
    (i1 : IsHeld G1 p1 c'.held) (i2 : IsHopes G1 pk c'.hopes) (nm : ∀ w ∈ c'.hopes, Named c'.held w) (s12 : Same H1 H2) (hy : H1 y = none) (hz : H1 z = none) (nyz : y ≠ z)
    (h2y : H2 y = some (.lst (ps.map V.ref ++ [V.ref a]))) (h2z : H2 z = some (.lst [.ref p1, .ref pk, .ref y])) : ∃ G', Grow H G H2 G' ∧ IsSt G' z (c' :: c :: rest) := by
  have gy := (g.later s12).add (sh.free hy) (g.le.free hy) h2y
  have g1z : upd G1 y (.lst (ps.map V.ref ++ [V.ref a])) z = none := by rw [upd_ne nyz.symm]; exact g.le.free hz
  have gz := gy.add (sh.free hz) g1z h2z
  have s1 : Same G1 (upd (upd G1 y (.lst (ps.map V.ref ++ [V.ref a]))) z (.lst [.ref p1, .ref pk, .ref y])) := ((Same.refl _).new (g.le.free hy)).new g1z
  refine ⟨_, gz, p1, pk, y, ps ++ [a], upd_same, i1.mono s1, i2.mono s1, nm, ?_, by simp [hl], fun _ => ⟨a, by simp, ia.mono gz.same⟩⟩
  rw [upd_ne nyz, upd_same]
  simp
theorem paired_take {α β : Type} {F : α → β → Prop} : ∀ {xs : List α} {ys : List β} (k : Nat), Paired F xs ys → Paired F (xs.take k) (ys.take k)
  | _, _, 0, _ => .nil
  | _, _, _ + 1, .nil => .nil
  | _, _, k + 1, .cons h r => .cons h (paired_take k r)
theorem paired_drop {α β : Type} {F : α → β → Prop} : ∀ {xs : List α} {ys : List β} (k : Nat), Paired F xs ys → Paired F (xs.drop k) (ys.drop k)
  | _, _, 0, h => h
  | _, _, _ + 1, .nil => .nil
  | _, _, k + 1, .cons h r => paired_drop k r
theorem paired_append {α β : Type} {F : α → β → Prop} : ∀ {xs xs' : List α} {ys ys' : List β}, Paired F xs ys → Paired F xs' ys' → Paired F (xs ++ xs') (ys ++ ys')
  | _, _, _, _, .nil, h => h
  | _, _, _, _, .cons h r, h' => .cons h (paired_append r h')
end Spf
end
section
set_option maxHeartbeats 4000000
/-! What is due. -/
namespace Spf
open PySem PySem.Spec PyProof.Rows L2 L2H HotX
/-- names among a wish's values that are not there -/
def strV (hd : Held) : V → Bool
  | .str t => (look hd t).isNone
  | _ => false
theorem strV_wish (hd : Held) (w : Wish) : ((wishV w).drop 1).filter (strV hd) = (w.tags.filter fun t => (look hd t).isNone).map V.str := by
  cases w <;> simp only [wishV, Wish.tags, List.drop_succ_cons, List.drop_zero, List.filter_cons, List.filter_nil, strV] <;> (try split) <;> (try split) <;> simp_all
theorem wish_tail (w : Wish) : ∀ x ∈ (wishV w).drop 1, (∃ t, x = V.str t) ∨ ∃ k, x = V.int k := by
  cases w <;> simp [wishV]
theorem wish_len (w : Wish) : 2 ≤ (wishV w).length ∧ (wishV w).length ≤ 3 := by cases w <;> simp [wishV]
theorem strange_is (hd : Held) (w : Wish) : strange hd w = (w.tags.filter fun t => (look hd t).isNone).head? := by
  unfold strange
  rw [List.head?_filter]
theorem strange_none {hd : Held} {w : Wish} (h : strange hd w = none) : Named hd w := fun t ht => by
  have := List.find?_eq_none.mp h t ht
  cases e : look hd t <;> simp_all
section
variable {P : Program} {w : World} {K : PySem.W.Frag} {mg : Str → Option Value} {base : Heap}
abbrev vLDue : List Str := ["_law_state", "_law_deed_here", "_law_held", "_law_hopes", "_law_past", "_law_later", "_law_kept", "_law_wrong", "_law_strange", "_law_tag"]
abbrev pLDue : List Str := ["_law_state", "_law_deed_here"]
theorem scLDue : FnScope vLDue pLDue (defScope (top 72)) := ⟨rfl, rfl, rfl, by decide +kernel, rfl, by decide +kernel, by decide +kernel⟩
/-- what comes of the deed: the answer's list at l, the state at s, both in the tuple t -/
def DueEnd (H G : Hp) (r : Told × List Snap) (Q : VK) : Prop := ∀ (t l s : Addr) (H' G' : Hp), Same H H' → Grow H G H' G' → H' t = some (.tup [.ref l, .ref s]) → H t = none → H' l = some (.lst (toldV r.1)) → H l = none → IsSt G' s r.2 → Q (.ref t) H'
def spDue : Sp := fun vs H Q _ => ∃ (G : Hp) (a d : Addr) (cs : List Snap) (dd : Deed), vs = [.ref a, .ref d] ∧ Same G H ∧ IsSt G a cs ∧ IsDeed G d dd ∧ cs.length ≤ 1000 ∧ (∀ c ∈ cs, c.hopes.length ≤ 100 ∧ c.held.length ≤ 100) ∧ DueEnd H G (due cs dd) Q
theorem okLDue (T : TxtA K mg) : FnX P w K mg base CX0 false false 7 T.l_due.f T.l_due.fd pLDue spDue := by
  refine funX0 (k := 6) T.l_due.F scLDue (fun vs H Q E ⟨G, a, d, cs, dd, e, _⟩ => e ▸ rfl) fun cdv A outer s H vs Q E p c ⟨G, a, d, cs, dd, e, sg, is, idd, hlen, hsz, q⟩ => ?_
  subst e
  refine ⟨_, pss_cons (ps_asg (pv 0) (pg_unlX c.md (pgs_cons (pg_name (i := 2) scLDue.nd rfl (Or.inr rfl)) (pgs_cons (pg_name (i := 3) scLDue.nd rfl (Or.inl rfl)) (pgs_cons (pg_name (i := 4) scLDue.nd rfl (Or.inl rfl)) pgs_nil)))))
      (pss_cons (ps_if (pt_cmpR op_eq (pe_ix ix_list (pv 1) pe_int (fun _ _ => rfl)) pe_str (nomark _)) (pss_one (ps_ret (pe_ifExp (pt_cmpR (op_neE c.u0) (pv 4) (pe_lst pa_nil) (nomark _)) (pe_tup (pa_cons (pe_lst (pa_cons pe_str (pa_cons pe_non pa_nil))) (pa_cons (pe_ix ix_list (pv 4) (pe_un un_neg pe_int) (fun _ _ => rfl)) pa_nil))) (pe_tup (pa_cons (pe_lst (pa_cons pe_str (pa_cons pe_non pa_nil))) (pa_cons (pv 0) pa_nil)))))) pss_nil)
      (pss_cons (ps_par3 (i := 5) (j := 6) (l := 7) (by rfl) scLDue.nd rfl rfl rfl (by decide) (by decide) (by decide) rfl rfl rfl (pa_cons (pe_callTy call_dictD (by rfl) T.dict (by decide +kernel) (pa_cons (pv 2) pa_nil)) (pa_cons (pe_callTy call_list_of (by rfl) T.list (by decide +kernel) (pa_cons (pv 3) pa_nil)) (pa_cons pe_non pa_nil))) (by rfl))
      (pss_cons (ps_if (pt_cmpR op_eq (pe_ix ix_list (pv 1) pe_int (fun _ _ => rfl)) pe_str (nomark _)) (pss_cons (ps_dput c.u1 (pv 5) (pe_ix ix_list (pv 1) pe_int (fun _ _ => rfl)) (pe_ix ix_list (pv 1) pe_int (fun _ _ => rfl)) rfl)
      (pss_one (ps_set (i := 7) scLDue.nd rfl (Or.inl rfl) (pe_callX (okLBroken T) (c.mono (by decide)) nogd rfl T.l_broken.mg T.l_broken.kp T.l_broken.b at00 (pa_cons (pv 5) (pa_cons (pv 3) pa_nil)))))) pss_nil)
      (pss_cons (ps_if (pt_cmpR op_eq (pe_ix ix_list (pv 1) pe_int (fun _ _ => rfl)) pe_str (nomark _)) (pss_cons (ps_set (i := 6) scLDue.nd rfl (Or.inl rfl) (pe_op op_cat (pv 6) (pe_lst (pa_cons (pe_ix ix_list (pv 1) pe_int (fun _ _ => rfl)) pa_nil))))
      (pss_cons (ps_setLc (i := 8) rfl (own := [("_law_tag", 9)]) (g := gName 9) scLDue.nd rfl rfl (sw_true rfl rfl rfl (by decide +kernel)) (pi_tup (pe_slice sl_tupA (pe_ix ix_list (pv 1) pe_int (fun _ _ => rfl)) (po_some pe_int) po_none)) (blkOk_by (N := vLDue) (sc := defScope (top 72)) (by decide +kernel)) (fun _ _ _ _ _ => (pg_name (i := 9) scLDue.nd rfl (Or.inl rfl))) (fun _ _ _ _ _ => (pts_one (PW.pt (pw_and (pt_val (pe_callB (call_isiK2 K) (by rfl) T.isinstance (by decide +kernel) (pa_cons (pv 9) (pa_cons (pe_tyB "str" (by rfl) T.str (by decide +kernel)) pa_nil)))) (pw_and1 (pt_cmp (pc_dnotin c.u1 (pv 9) (pv 2)))))))) (fun _ _ _ _ _ => (pv 9)))
      (pss_one (ps_set (i := 7) scLDue.nd rfl (Or.inl rfl) (pe_ifExp (pt_cmpR (op_neE c.u0) (pv 8) (pe_lst pa_nil) (nomark _)) (pe_lst (pa_cons pe_str (pa_cons (pe_ix ix_list (pv 8) pe_int (fun _ _ => rfl)) pa_nil))) (pe_callX (okLBroken T) (c.mono (by decide)) nogd rfl T.l_broken.mg T.l_broken.kp T.l_broken.b at00 (pa_cons (pv 2) (pa_cons (pv 6) pa_nil)))))))) pss_nil)
      (pss_cons (ps_if (pt_cmpR op_eq (pe_ix ix_list (pv 1) pe_int (fun _ _ => rfl)) pe_str (nomark _)) (pss_cons (ps_set (i := 7) scLDue.nd rfl (Or.inl rfl) (pe_ifExp (pt_chain op_le op_lt pe_int (pe_ix ix_list (pv 1) pe_int (fun _ _ => rfl)) (pe_callB call_len_seq (by rfl) T.len PySem.boot_len (pa_cons (pv 3) pa_nil))) pe_non (pe_lst (pa_cons pe_str (pa_cons (pe_ix ix_list (pv 1) pe_int (fun _ _ => rfl)) pa_nil)))))
      (pss_one (ps_set (i := 6) scLDue.nd rfl (Or.inl rfl) (pe_op op_cat (pe_slice sl_list (pv 3) po_none (po_some (pe_callB (call_max2 rfl) (by rfl) T.max (by decide +kernel) (pa_cons (pe_ix ix_list (pv 1) pe_int (fun _ _ => rfl)) (pa_cons pe_int pa_nil))))) (pe_slice sl_list (pv 3) (po_some (pe_op op_add (pe_callB (call_max2 rfl) (by rfl) T.max (by decide +kernel) (pa_cons (pe_ix ix_list (pv 1) pe_int (fun _ _ => rfl)) (pa_cons pe_int pa_nil))) pe_int)) po_none))))) pss_nil)
      (pss_one (ps_ret (pe_ifExp (pt_cmpR op_isN (pv 7) pe_non (nomark _)) (pe_tup (pa_cons (pe_lst (pa_cons pe_str (pa_cons pe_non pa_nil))) (pa_cons (pe_lst (pa_cons (pv 5) (pa_cons (pv 6) (pa_cons (pe_op op_cat (pv 4) (pe_lst (pa_cons (pv 0) pa_nil))) pa_nil)))) pa_nil))) (pe_tup (pa_cons (pv 7) (pa_cons (pv 0) pa_nil))))))))))), ?_⟩
  cases cs with
  | nil => exact is.elim
  | cons cc rest =>
  have is0 := is
  obtain ⟨h1, o1, o2, ps, a1, ih, ⟨qs, io, pr⟩, nm, a4, hl, last⟩ := is
  obtain ⟨hsz1, hsz2⟩ := hsz cc List.mem_cons_self
  have hl1 : rest.length ≤ 1000 := by rw [List.length_cons] at hlen; omega
  have sa := SqL.of (K := K) (sg _ _ a1)
  refine ⟨_, rfl, a, _, rfl, sa, rfl, _, _, rfl, _, _, rfl, _, _, rfl, rfl, ?_⟩
  cases dd with
  | undo =>
    have sd := SqL.of (K := K) (sg _ _ idd)
    refine ⟨_, rfl, d, _, _, _, rfl, rfl, sd, rfl, rfl, _, rfl, ifT (by decide +kernel) ?_⟩
    have sp := SqL.of (K := K) (sg _ _ a4)
    refine ⟨_, rfl, Nat.zero_le _, fun e he => ⟨o2, e, _, rfl, rfl, ((Same.refl _).new he).seq sp, SqL.of upd_same, _, rfl, ?_⟩⟩
    have s1 := (Same.refl H).new (o := .lst []) he
    cases rest with
    | nil =>
      have : ps = [] := List.length_eq_zero_iff.mp hl
      subst this
      refine ifF rfl ?_
      refine ⟨szL (by show 2 ≤ 1000000; decide), fun l hl => ⟨_, rfl, szL (by show 2 ≤ 1000000; decide), fun t ht => ?_⟩⟩
      have s2 := s1.new (o := .lst [.str "NothingToUndo", .non]) hl
      have nlt : l ≠ t := ne_of_none upd_same ht
      exact q t l a _ G (s2.new ht) (Grow.of sg (s2.new ht)) upd_same (s2.free ht) (by rw [upd_ne nlt, upd_same]; rfl) (s1.free hl) is0
    | cons r rs =>
      obtain ⟨b, hb, ib⟩ := last (by simp)
      have hne : ps ≠ [] := fun z => by subst z; cases hb
      refine ifT (by cases ps with | nil => exact absurd rfl hne | cons _ _ => rfl) ?_
      refine ⟨szL (by show 2 ≤ 1000000; decide), fun l hl => ?_⟩
      have s2 := s1.new (o := .lst [.str "told", .non]) hl
      refine ⟨_, rfl, 1, rfl, o2, ps.map V.ref, -1, .ref b, rfl, rfl, s2.seq sp, ?_, szL (by show 2 ≤ 1000000; decide), fun t ht => ?_⟩
      · obtain ⟨ps', rfl⟩ : ∃ ps', ps = ps' ++ [b] := by
          rw [List.getLast?_eq_some_iff] at hb
          exact hb
        rw [List.map_append]
        exact atI_last _ _
      · have nlt : l ≠ t := ne_of_none upd_same ht
        exact q t l b _ G (s2.new ht) (Grow.of sg (s2.new ht)) upd_same (s2.free ht) (by rw [upd_ne nlt, upd_same]; rfl) (s1.free hl) ib
  | put t e =>
    obtain ⟨pe, ide, ie⟩ := idd
    have sd := SqL.of (K := K) (sg _ _ ide)
    refine ⟨_, rfl, d, _, _, _, rfl, rfl, sd, rfl, rfl, _, rfl, ifF (by decide +kernel) ?_⟩
    obtain ⟨kvs, hk, hp, hnd⟩ := ih
    have hkl : kvs.length = cc.held.length := hp.length
    refine ⟨_, rfl, h1, kvs, rfl, .inl (sg _ _ hk), fun p1 hp1 => ?_⟩
    have s1 := (Same.refl H).new (o := .dK kvs) hp1
    refine ⟨_, rfl, o1, _, rfl, .inl (s1.seq (SqL.of (sg _ _ io))), fun pk hpk => ?_⟩
    have n1k : p1 ≠ pk := ne_of_none upd_same hpk
    have s2 := s1.new (o := .lst (qs.map V.ref)) hpk
    refine ⟨_, _, _, rfl, ?_⟩
    refine ⟨_, rfl, d, _, _, _, rfl, rfl, s2.seq sd, rfl, rfl, _, rfl, ifT (by decide +kernel) ?_⟩
    refine ⟨_, rfl, d, _, _, _, rfl, rfl, s2.seq sd, rfl, _, rfl, _, rfl, d, _, _, _, rfl, rfl, s2.seq sd, rfl, p1, _, rfl, DPut.k (k := Sum.inr t) (by rw [upd_ne n1k, upd_same]) (by rw [hkl, sizeLine_eq]; omega), ?_⟩
    generalize hH2 : upd (upd (upd H p1 (.dK kvs)) pk (.lst (qs.map V.ref))) p1 (.dK (putK kvs (Sum.inr t) (.ref pe))) = H2
    have h0 : H p1 = none := hp1
    have h0k : H pk = none := s1.free hpk
    have s3 : Same H H2 := by
      intro b u hb
      rw [← hH2, upd_ne (ne_of_none hb hp1)]
      exact s2 _ _ hb
    have h2p : H2 p1 = some (.dK (putK kvs (Sum.inr t) (.ref pe))) := by rw [← hH2, upd_same]
    have h2k : H2 pk = some (.lst (qs.map V.ref)) := by rw [← hH2, upd_ne n1k.symm, upd_same]
    have g1 := ((Grow.of sg s3).add h0 (sg.free h0) h2p)
    have gk0 : upd G p1 (.dK (putK kvs (Sum.inr t) (.ref pe))) pk = none := by rw [upd_ne n1k.symm]; exact sg.free h0k
    have g2 := g1.add h0k gk0 h2k
    have hput := IsHeld.put hp hnd ie (t := t)
    have ih2 : IsHeld (upd (upd G p1 (.dK (putK kvs (Sum.inr t) (.ref pe)))) pk (.lst (qs.map V.ref))) p1 (putH cc.held t e) :=
      ⟨_, by rw [upd_ne n1k, upd_same], hput.1.mono fun _ _ ⟨e, p, e2, hp⟩ => ⟨e, p, e2, hp.mono g2.same⟩, hput.2⟩
    have io2 : IsHopes (upd (upd G p1 (.dK (putK kvs (Sum.inr t) (.ref pe)))) pk (.lst (qs.map V.ref))) pk cc.hopes := ⟨qs, upd_same, pr.mono fun _ _ h => h.mono g2.same⟩
    have nm2 : ∀ w ∈ cc.hopes, Named (putH cc.held t e) w := fun w hw => (nm w hw).put
    generalize hG2 : upd (upd G p1 (.dK (putK kvs (Sum.inr t) (.ref pe)))) pk (.lst (qs.map V.ref)) = G2 at g2 ih2 io2
    refine ⟨_, rfl, _, rfl, G2, p1, o1, putH cc.held t e, cc.hopes, rfl, Le.of g2.le, ih2, ⟨qs, g2.same _ _ io, pr.mono fun _ _ h => h.mono g2.same⟩, nm2, by omega, fun H3 s4 hb => ?_, fun k l H3 s4 hb hl3 hl0 => ?_⟩
    · have sd3 := (s3.trans s4).seq sd
      refine ⟨_, rfl, d, _, _, _, rfl, rfl, sd3, rfl, rfl, _, rfl, ifF (by decide +kernel) ?_⟩
      refine ⟨_, rfl, d, _, _, _, rfl, rfl, sd3, rfl, rfl, _, rfl, ifF (by decide +kernel) ?_⟩
      have g3 := g2.later s4
      have s30 := s3.trans s4
      refine ⟨_, rfl, rfl, _, rfl, ifT rfl ?_⟩
      refine ⟨szL (by show 2 ≤ 1000000; decide), fun tl htl => ?_⟩
      have u1 := (Same.refl H3).new (o := .lst [.str "told", .non]) htl
      refine ⟨_, rfl, _, rfl, _, rfl, _, rfl, szL (by show 1 ≤ 1000000; decide), fun x hx => ?_⟩
      have u2 := u1.new (o := .lst [.ref a]) hx
      refine ⟨o2, x, ps.map V.ref, [V.ref a], rfl, rfl, u2 _ _ (s30 _ _ (sg _ _ a4)), upd_same, szL (by simp; omega), fun y hy => ?_⟩
      have u3 := u2.new (o := .lst (ps.map V.ref ++ [V.ref a])) hy
      refine ⟨szL (by show 3 ≤ 1000000; decide), fun z hz => ?_⟩
      have u4 := u3.new (o := .lst [.ref p1, .ref pk, .ref y]) hz
      refine ⟨szL (by show 2 ≤ 1000000; decide), fun t' ht => ?_⟩
      have nlx : tl ≠ x := ne_of_none upd_same hx
      have nly : tl ≠ y := ne_of_none (by rw [upd_ne nlx, upd_same]) hy
      have nlz : tl ≠ z := ne_of_none (by rw [upd_ne nly, upd_ne nlx, upd_same]) hz
      have nlt : tl ≠ t' := ne_of_none (by rw [upd_ne nlz, upd_ne nly, upd_ne nlx, upd_same]) ht
      have nyz : y ≠ z := ne_of_none upd_same hz
      have nyt : y ≠ t' := ne_of_none (by rw [upd_ne nyz, upd_same]) ht
      have nzt : z ≠ t' := ne_of_none upd_same ht
      have s35 := s30.trans u4
      have s5 := s35.new (o := .tup [.ref tl, .ref z]) ht
      obtain ⟨G', gg, igg⟩ := push_st (c' := ⟨putH cc.held t e, cc.hopes⟩) g3 s30 is0 hl ih2 io2 nm2 (u4.new (o := .tup [.ref tl, .ref z]) ht) (u2.free hy) (u3.free hz) nyz
        (by rw [upd_ne nyt, upd_ne nyz, upd_same]) (by rw [upd_ne nzt, upd_same])
      simp only [due, hb] at q
      exact q t' tl z _ G' s5 gg upd_same (s35.free ht) (by rw [upd_ne nlt, upd_ne nlz, upd_ne nly, upd_ne nlx, upd_same]; rfl) (s30.free htl) igg
    · have sd3 := (s3.trans s4).seq sd
      refine ⟨_, rfl, d, _, _, _, rfl, rfl, sd3, rfl, rfl, _, rfl, ifF (by decide +kernel) ?_⟩
      refine ⟨_, rfl, d, _, _, _, rfl, rfl, sd3, rfl, rfl, _, rfl, ifF (by decide +kernel) ?_⟩
      simp only [due, hb] at q
      have s30 := s3.trans s4
      have hl00 : H l = none := s3.free hl0
      refine ⟨_, rfl, rfl, _, rfl, ifF rfl ?_⟩
      refine ⟨_, rfl, _, rfl, szL (by show 2 ≤ 1000000; decide), fun t' ht => ?_⟩
      have nlt : l ≠ t' := ne_of_none hl3 ht
      exact q t' l a _ G (s30.new ht) (Grow.of sg (s30.new ht)) upd_same (s30.free ht) (by rw [upd_ne nlt, hl3]; rfl) hl00 is0
  | wish w =>
    obtain ⟨pw, ide, iw⟩ := idd
    have sd := SqL.of (K := K) (sg _ _ ide)
    refine ⟨_, rfl, d, _, _, _, rfl, rfl, sd, rfl, rfl, _, rfl, ifF (by decide +kernel) ?_⟩
    have ihk := fun t => held_get ih (t := t)
    obtain ⟨kvs, hk, hp, hnd⟩ := id ih
    refine ⟨_, rfl, h1, kvs, rfl, .inl (sg _ _ hk), fun p1 hp1 => ?_⟩
    have s1 := (Same.refl H).new (o := .dK kvs) hp1
    refine ⟨_, rfl, o1, _, rfl, .inl (s1.seq (SqL.of (sg _ _ io))), fun pk hpk => ?_⟩
    have n1k : p1 ≠ pk := ne_of_none upd_same hpk
    have s2 := s1.new (o := .lst (qs.map V.ref)) hpk
    have h2k : upd (upd H p1 (.dK kvs)) pk (.lst (qs.map V.ref)) pk = some (.lst (qs.map V.ref)) := upd_same
    have h2p : upd (upd H p1 (.dK kvs)) pk (.lst (qs.map V.ref)) p1 = some (.dK kvs) := by rw [upd_ne n1k, upd_same]
    generalize hH2 : upd (upd H p1 (.dK kvs)) pk (.lst (qs.map V.ref)) = H2 at s2 h2k h2p
    refine ⟨_, _, _, rfl, ?_⟩
    refine ⟨_, rfl, d, _, _, _, rfl, rfl, s2.seq sd, rfl, rfl, _, rfl, ifF (by decide +kernel) ?_⟩
    refine ⟨_, rfl, d, _, _, _, rfl, rfl, s2.seq sd, rfl, rfl, _, rfl, ifT (by decide +kernel) ?_⟩
    have qsl : qs.length = cc.hopes.length := pr.length
    refine ⟨_, rfl, _, rfl, d, _, _, _, rfl, rfl, s2.seq sd, rfl, szL (by show 1 ≤ 1000000; decide), fun x1 hx1 => ?_⟩
    have s3 := s2.new (o := .lst [.ref pw]) hx1
    have s23 := (Same.refl H2).new (o := .lst [.ref pw]) hx1
    refine ⟨pk, x1, _, _, rfl, rfl, s23 _ _ h2k, upd_same, szL (by simp; omega), fun pk2 hpk2 => ?_⟩
    have s4 := s3.new (o := .lst (qs.map V.ref ++ [V.ref pw])) hpk2
    have s24 := s23.new (o := .lst (qs.map V.ref ++ [V.ref pw])) hpk2
    have h4k := upd_same (H := upd H2 x1 (.lst [.ref pw])) (a := pk2) (o := .lst (qs.map V.ref ++ [V.ref pw]))
    have h4p := s24 _ _ h2p
    generalize hH4 : upd (upd H2 x1 (.lst [.ref pw])) pk2 (.lst (qs.map V.ref ++ [V.ref pw])) = H4 at s4 s24 h4k h4p
    have wl := wish_len w
    refine ⟨_, rfl, d, _, _, _, rfl, rfl, s4.seq sd, rfl, 1, rfl, pw, wishV w, rfl, SqT.of (s4 _ _ (sg _ _ iw.1)), fun ⟨z, _⟩ => ?_, fun _ tl0 htl0 => ?_⟩
    · exact absurd z (by show ¬ min 1 (wishV w).length = 0; omega)
    have s5 := s4.new (o := .tup (cutV (wishV w) (some 1) none)) htl0
    have s45 := (Same.refl H4).new (o := .tup (cutV (wishV w) (some 1) none)) htl0
    have h5 := upd_same (H := H4) (a := tl0) (o := .tup (cutV (wishV w) (some 1) none))
    have hcut : cutV (wishV w) (some 1) none = (wishV w).drop 1 := cutV_from (wishV w) 1
    rw [hcut] at s5 s45 h5 ⊢
    generalize hH5 : upd H4 tl0 (.tup ((wishV w).drop 1)) = H5 at s5 s45 h5 ⊢
    refine ⟨tl0, rfl, ⟨_, SqT.of h5⟩, fun D hD => ?_⟩
    have dl : ((wishV w).drop 1).length ≤ 2 := by rw [List.length_drop]; omega
    refine lc_tup (K := K) (xs := (wishV w).drop 1) (fun i H' => Same H5 H' ∧ H' D = some (.lst ((((wishV w).drop 1).take i).filter (strV cc.held)))) ⟨(Same.refl _).new hD, upd_same⟩ (fun i H' _ h => h.1.seqT (SqT.of h5)) ?_ ?_
    · rintro i x H' hx ⟨sx, hDx⟩
      refine ⟨rfl, ?_⟩
      have next : ∀ b : Bool, strV cc.held x = b → (if b = true then (tVar 9) ((wipe [some (V.ref a), some (V.ref d), some (V.ref h1), some (V.ref o1), some (V.ref o2), some (V.ref p1), some (V.ref pk2), some V.non, none, none] [9]).set 9 (some x)) H' (fun y H4 => ∃ acc, H4 D = some (.lst acc) ∧ acc.length < sizeLine ∧ Same H5 (upd H4 D (.lst (acc ++ [y]))) ∧ upd H4 D (.lst (acc ++ [y])) D = some (.lst ((((wishV w).drop 1).take (i + 1)).filter (strV cc.held)))) else Same H5 H' ∧ H' D = some (.lst ((((wishV w).drop 1).take (i + 1)).filter (strV cc.held)))) := by
        intro b hb
        have tk : ((wishV w).drop 1).take (i + 1) = ((wishV w).drop 1).take i ++ [x] := by rw [List.take_add_one, hx]; rfl
        rw [tk, List.filter_append]
        cases b with
        | true =>
          refine ifT rfl ⟨_, rfl, _, hDx, ?_, ?_, ?_⟩
          · refine Nat.lt_of_le_of_lt (List.length_filter_le _ _) ?_
            rw [List.length_take, sizeLine_eq]; omega
          · intro b o hb'
            rw [upd_ne (ne_of_none hb' hD)]
            exact sx _ _ hb'
          · rw [upd_same]; simp [hb]
        | false => exact ifF rfl ⟨sx, by rw [hDx]; simp [hb]⟩
      rcases wish_tail w x (List.mem_of_getElem? hx) with ⟨u, rfl⟩ | ⟨k, rfl⟩
      · refine ⟨_, rfl, .str u, .ty "str", .type "str", .type "str", true, rfl, .ty _, .base (.str u), kit_ty (by decide +kernel), _, rfl, ifT rfl ?_⟩
        obtain ⟨kvs', hk', hv⟩ := ihk u
        have dg := (Le.of (sg.trans (s5.trans sx))).dget (k := Sum.inr u) hk'
        refine ⟨_, rfl, _, rfl, h1, _, rfl, dg, _, rfl, ?_⟩
        refine next _ ?_
        rcases hv with ⟨e1, e2⟩ | ⟨p, e, e1, e2, _⟩
        · rw [e2]; simp [strV, e1]
        · rw [e2]; simp [strV, e1]
      · refine ⟨_, rfl, .int k, .ty "str", .type "int", .type "str", false, rfl, .ty _, .base (.int k), kit_ty (by decide +kernel), _, rfl, ifF rfl ?_⟩
        exact next false rfl
    rintro H6 ⟨s6, hD6⟩
    rw [List.take_length, strV_wish] at hD6
    have s06 := s5.trans s6
    refine ⟨_, rfl, Nat.zero_le _, fun e0 he0 => ⟨D, e0, _, rfl, rfl, ((Same.refl _).new he0).seq (SqL.of hD6), SqL.of upd_same, _, rfl, ?_⟩⟩
    have s67 := (Same.refl H6).new (o := .lst []) he0
    have s07 := s06.trans s67
    have h7D := s67 _ _ hD6
    have h7p := s67 _ _ (s6 _ _ (s45 _ _ h4p))
    have h7k := s67 _ _ (s6 _ _ (s45 _ _ h4k))
    generalize upd H6 e0 (.lst []) = H7 at s67 s07 h7D h7p h7k ⊢
    have sd7 := s07.seq sd
    cases hst : w.tags.filter (fun t => (look cc.held t).isNone) with
    | cons u us =>
      rw [hst] at h7D
      have hstr : strange cc.held w = some u := by rw [strange_is, hst]; rfl
      refine ifT rfl ?_
      refine ⟨_, rfl, D, _, ((0 : Nat) : Int), .str u, rfl, rfl, SqL.of h7D, atI_nat rfl, szL (by show 2 ≤ 1000000; decide), fun l hl0 => ?_⟩
      have hl3 := upd_same (H := H7) (a := l) (o := .lst [.str "UnknownName", .str u])
      have s30 := s07.new (o := .lst [.str "UnknownName", .str u]) hl0
      have hl00 : H l = none := s07.free hl0
      generalize upd H7 l (.lst [.str "UnknownName", .str u]) = H3 at s30 hl3 ⊢
      refine ⟨_, rfl, d, _, _, _, rfl, rfl, s30.seq sd, rfl, rfl, _, rfl, ifF (by decide +kernel) ?_⟩
      simp only [due, hstr] at q
      refine ⟨_, rfl, rfl, _, rfl, ifF rfl ?_⟩
      refine ⟨_, rfl, _, rfl, szL (by show 2 ≤ 1000000; decide), fun t' ht => ?_⟩
      have nlt : l ≠ t' := ne_of_none hl3 ht
      exact q t' l a _ G (s30.new ht) (Grow.of sg (s30.new ht)) upd_same (s30.free ht) (by rw [upd_ne nlt, hl3]; rfl) hl00 is0
    | nil =>
      have hstr : strange cc.held w = none := by rw [strange_is, hst]; rfl
      refine ifF rfl ?_
      have gk : Grow H G H7 (upd G pk2 (.lst ((qs ++ [pw]).map V.ref))) := (Grow.of sg s07).add (s3.free hpk2) (sg.free (s3.free hpk2)) (by rw [h7k]; simp)
      have io2 : IsHopes (upd G pk2 (.lst ((qs ++ [pw]).map V.ref))) pk2 (cc.hopes ++ [w]) := ⟨_, upd_same, (pr.mono fun _ _ h => h.mono gk.same).snoc (iw.mono gk.same)⟩
      have ih2 : IsHeld (upd G pk2 (.lst ((qs ++ [pw]).map V.ref))) h1 cc.held := ih.mono gk.same
      have g1p : upd G pk2 (.lst ((qs ++ [pw]).map V.ref)) p1 = none := by
        have n : p1 ≠ pk2 := by
          intro z
          subst z
          have hf := s23.free hpk2
          rw [h2p] at hf
          cases hf
        rw [upd_ne n]
        exact sg.free hp1
      have gkp := gk.add hp1 g1p h7p
      have ih3 : IsHeld (upd (upd G pk2 (.lst ((qs ++ [pw]).map V.ref))) p1 (.dK kvs)) p1 cc.held := ⟨kvs, upd_same, hp.mono fun _ _ ⟨e, p, e2, hp⟩ => ⟨e, p, e2, hp.mono gkp.same⟩, hnd⟩
      have io3 := io2.mono ((Same.refl _).new (o := .dK kvs) g1p)
      have nm2 : ∀ w' ∈ cc.hopes ++ [w], Named cc.held w' := fun w' hw => by
        rcases List.mem_append.mp hw with hw | hw
        · exact nm w' hw
        · exact List.mem_singleton.mp hw ▸ strange_none hstr
      refine ⟨_, rfl, _, rfl, _, h1, pk2, cc.held, cc.hopes ++ [w], rfl, Le.of gk.le, ih2, io2, nm2, by simp; omega, fun H3 s4' hb => ?_, fun k l H3 s4' hb hl3 hl0 => ?_⟩
      · have s30 := s07.trans s4'
        refine ⟨_, rfl, d, _, _, _, rfl, rfl, s30.seq sd, rfl, rfl, _, rfl, ifF (by decide +kernel) ?_⟩
        have g3 := gkp.later s4'
        refine ⟨_, rfl, rfl, _, rfl, ifT rfl ?_⟩
        refine ⟨szL (by show 2 ≤ 1000000; decide), fun tl htl => ?_⟩
        have u1 := (Same.refl H3).new (o := .lst [.str "told", .non]) htl
        refine ⟨_, rfl, _, rfl, _, rfl, _, rfl, szL (by show 1 ≤ 1000000; decide), fun x hx => ?_⟩
        have u2 := u1.new (o := .lst [.ref a]) hx
        refine ⟨o2, x, ps.map V.ref, [V.ref a], rfl, rfl, u2 _ _ (s30 _ _ (sg _ _ a4)), upd_same, szL (by simp; omega), fun y hy => ?_⟩
        have u3 := u2.new (o := .lst (ps.map V.ref ++ [V.ref a])) hy
        refine ⟨szL (by show 3 ≤ 1000000; decide), fun z hz => ?_⟩
        have u4 := u3.new (o := .lst [.ref p1, .ref pk2, .ref y]) hz
        refine ⟨szL (by show 2 ≤ 1000000; decide), fun t' ht => ?_⟩
        have nlx : tl ≠ x := ne_of_none upd_same hx
        have nly : tl ≠ y := ne_of_none (by rw [upd_ne nlx, upd_same]) hy
        have nlz : tl ≠ z := ne_of_none (by rw [upd_ne nly, upd_ne nlx, upd_same]) hz
        have nlt : tl ≠ t' := ne_of_none (by rw [upd_ne nlz, upd_ne nly, upd_ne nlx, upd_same]) ht
        have nyz : y ≠ z := ne_of_none upd_same hz
        have nyt : y ≠ t' := ne_of_none (by rw [upd_ne nyz, upd_same]) ht
        have nzt : z ≠ t' := ne_of_none upd_same ht
        have s35 := s30.trans u4
        have s5 := s35.new (o := .tup [.ref tl, .ref z]) ht
        obtain ⟨G', gg, igg⟩ := push_st (c' := ⟨cc.held, cc.hopes ++ [w]⟩) g3 s30 is0 hl ih3 io3 nm2 (u4.new (o := .tup [.ref tl, .ref z]) ht) (u2.free hy) (u3.free hz) nyz
          (by rw [upd_ne nyt, upd_ne nyz, upd_same]) (by rw [upd_ne nzt, upd_same])
        simp only [due, hstr, hb] at q
        exact q t' tl z _ G' s5 gg upd_same (s35.free ht) (by rw [upd_ne nlt, upd_ne nlz, upd_ne nly, upd_ne nlx, upd_same]; rfl) (s30.free htl) igg
      · have s30 := s07.trans s4'
        refine ⟨_, rfl, d, _, _, _, rfl, rfl, s30.seq sd, rfl, rfl, _, rfl, ifF (by decide +kernel) ?_⟩
        simp only [due, hstr, hb] at q
        have hl00 : H l = none := s07.free hl0
        refine ⟨_, rfl, rfl, _, rfl, ifF rfl ?_⟩
        refine ⟨_, rfl, _, rfl, szL (by show 2 ≤ 1000000; decide), fun t' ht => ?_⟩
        have nlt : l ≠ t' := ne_of_none hl3 ht
        exact q t' l a _ G (s30.new ht) (Grow.of sg (s30.new ht)) upd_same (s30.free ht) (by rw [upd_ne nlt, hl3]; rfl) hl00 is0
  | lift i =>
    have sd := SqL.of (K := K) (sg _ _ idd)
    refine ⟨_, rfl, d, _, _, _, rfl, rfl, sd, rfl, rfl, _, rfl, ifF (by decide +kernel) ?_⟩
    obtain ⟨kvs, hk, hp, hnd⟩ := id ih
    refine ⟨_, rfl, h1, kvs, rfl, .inl (sg _ _ hk), fun p1 hp1 => ?_⟩
    have s1 := (Same.refl H).new (o := .dK kvs) hp1
    refine ⟨_, rfl, o1, _, rfl, .inl (s1.seq (SqL.of (sg _ _ io))), fun pk hpk => ?_⟩
    have n1k : p1 ≠ pk := ne_of_none upd_same hpk
    have s2 := s1.new (o := .lst (qs.map V.ref)) hpk
    have h2p : upd (upd H p1 (.dK kvs)) pk (.lst (qs.map V.ref)) p1 = some (.dK kvs) := by rw [upd_ne n1k, upd_same]
    generalize hH2 : upd (upd H p1 (.dK kvs)) pk (.lst (qs.map V.ref)) = H2 at s2 h2p
    refine ⟨_, _, _, rfl, ?_⟩
    refine ⟨_, rfl, d, _, _, _, rfl, rfl, s2.seq sd, rfl, rfl, _, rfl, ifF (by decide +kernel) ?_⟩
    refine ⟨_, rfl, d, _, _, _, rfl, rfl, s2.seq sd, rfl, rfl, _, rfl, ifF (by decide +kernel) ?_⟩
    refine ⟨_, rfl, d, _, _, _, rfl, rfl, s2.seq sd, rfl, rfl, _, rfl, ifT (by decide +kernel) ?_⟩
    have qsl : qs.length = cc.hopes.length := pr.length
    have hm : (if (0 : Int) > i then 0 else i) = ((i.toNat : Nat) : Int) := by split <;> omega
    by_cases hin : 0 ≤ i ∧ i < cc.hopes.length
    · refine ⟨_, rfl, d, _, _, _, rfl, rfl, s2.seq sd, rfl, _, _, rfl, rfl, _, rfl, ifT (decide_eq_true hin.1) ?_⟩
      refine ⟨_, rfl, o1, _, rfl, .inl (s2.seq (SqL.of (sg _ _ io))), _, _, rfl, rfl, _, rfl, ifT (decide_eq_true (by rw [List.length_map, qsl]; exact hin.2)) ?_⟩
      have sWW := s2
      have h7p' := h2p
      generalize H2 = HW at sWW h7p' ⊢
      have sl3 := sWW.seq (K := K) (SqL.of (sg _ _ io))
      refine ⟨_, rfl, _, rfl, d, _, _, _, rfl, rfl, sWW.seq sd, rfl, _, _, rfl, ((i.toNat : Nat) : Int), congrArg V.int hm, o1, _, rfl, sl3, fun xa hxa => ?_⟩
      rw [cutV_to] at *
      have t1 := (Same.refl HW).new (o := .lst ((qs.map V.ref).take i.toNat)) hxa
      refine ⟨_, rfl, _, rfl, d, _, _, _, rfl, rfl, (sWW.trans t1).seq sd, rfl, _, _, rfl, _, _, rfl, rfl, ((i.toNat + 1 : Nat) : Int), congrArg V.int (by rw [hm]; rfl), o1, _, rfl, t1.seq sl3, fun xb hxb => ?_⟩
      rw [cutV_from] at *
      have t2 := t1.new (o := .lst ((qs.map V.ref).drop (i.toNat + 1))) hxb
      have nab : xa ≠ xb := ne_of_none upd_same hxb
      refine ⟨xa, xb, _, _, rfl, rfl, by rw [upd_ne nab, upd_same], upd_same, szL (by simp only [List.length_take, List.length_drop, List.length_map]; omega), fun pk2 hpk2 => ?_⟩
      have t3 := t2.new (o := .lst ((qs.map V.ref).take i.toNat ++ (qs.map V.ref).drop (i.toNat + 1))) hpk2
      have h7k := upd_same (H := upd (upd HW xa (.lst ((qs.map V.ref).take i.toNat))) xb (.lst ((qs.map V.ref).drop (i.toNat + 1)))) (a := pk2) (o := .lst ((qs.map V.ref).take i.toNat ++ (qs.map V.ref).drop (i.toNat + 1)))
      have f7k : HW pk2 = none := t2.free hpk2
      generalize hHH3 : upd (upd (upd HW xa (.lst ((qs.map V.ref).take i.toNat))) xb (.lst ((qs.map V.ref).drop (i.toNat + 1)))) pk2 (.lst ((qs.map V.ref).take i.toNat ++ (qs.map V.ref).drop (i.toNat + 1))) = H3 at t3 h7k ⊢
      have s30 := sWW.trans t3
      have gk : Grow H G H3 (upd G pk2 (.lst ((qs.take i.toNat ++ qs.drop (i.toNat + 1)).map V.ref))) := (Grow.of sg s30).add (sWW.free f7k) (sg.free (sWW.free f7k)) (by rw [h7k]; simp)
      have g1p : upd G pk2 (.lst ((qs.take i.toNat ++ qs.drop (i.toNat + 1)).map V.ref)) p1 = none := by
        have n : p1 ≠ pk2 := by
          intro z
          subst z
          rw [h7p'] at f7k
          cases f7k
        rw [upd_ne n]
        exact sg.free hp1
      have gkp := gk.add hp1 g1p (t3 _ _ h7p')
      have ih3 : IsHeld (upd (upd G pk2 (.lst ((qs.take i.toNat ++ qs.drop (i.toNat + 1)).map V.ref))) p1 (.dK kvs)) p1 cc.held := ⟨kvs, upd_same, hp.mono fun _ _ ⟨e, p, e2, hp⟩ => ⟨e, p, e2, hp.mono gkp.same⟩, hnd⟩
      have io2 : IsHopes (upd G pk2 (.lst ((qs.take i.toNat ++ qs.drop (i.toNat + 1)).map V.ref))) pk2 (cc.hopes.take i.toNat ++ cc.hopes.drop (i.toNat + 1)) := ⟨_, upd_same, (paired_append (paired_take _ pr) (paired_drop _ pr)).mono fun _ _ h => h.mono gk.same⟩
      have io3 := io2.mono ((Same.refl _).new (o := .dK kvs) g1p)
      have nm2 : ∀ w' ∈ cc.hopes.take i.toNat ++ cc.hopes.drop (i.toNat + 1), Named cc.held w' := fun w' hw => by
        rcases List.mem_append.mp hw with hw | hw
        · exact nm w' (List.mem_of_mem_take hw)
        · exact nm w' (List.mem_of_mem_drop hw)
      have g3 := gkp
      refine ⟨_, rfl, rfl, _, rfl, ifT rfl ?_⟩
      refine ⟨szL (by show 2 ≤ 1000000; decide), fun tl htl => ?_⟩
      have u1 := (Same.refl H3).new (o := .lst [.str "told", .non]) htl
      refine ⟨_, rfl, _, rfl, _, rfl, _, rfl, szL (by show 1 ≤ 1000000; decide), fun x hx => ?_⟩
      have u2 := u1.new (o := .lst [.ref a]) hx
      refine ⟨o2, x, ps.map V.ref, [V.ref a], rfl, rfl, u2 _ _ (s30 _ _ (sg _ _ a4)), upd_same, szL (by simp; omega), fun y hy => ?_⟩
      have u3 := u2.new (o := .lst (ps.map V.ref ++ [V.ref a])) hy
      refine ⟨szL (by show 3 ≤ 1000000; decide), fun z hz => ?_⟩
      have u4 := u3.new (o := .lst [.ref p1, .ref pk2, .ref y]) hz
      refine ⟨szL (by show 2 ≤ 1000000; decide), fun t' ht => ?_⟩
      have nlx : tl ≠ x := ne_of_none upd_same hx
      have nly : tl ≠ y := ne_of_none (by rw [upd_ne nlx, upd_same]) hy
      have nlz : tl ≠ z := ne_of_none (by rw [upd_ne nly, upd_ne nlx, upd_same]) hz
      have nlt : tl ≠ t' := ne_of_none (by rw [upd_ne nlz, upd_ne nly, upd_ne nlx, upd_same]) ht
      have nyz : y ≠ z := ne_of_none upd_same hz
      have nyt : y ≠ t' := ne_of_none (by rw [upd_ne nyz, upd_same]) ht
      have nzt : z ≠ t' := ne_of_none upd_same ht
      have s35 := s30.trans u4
      have s5 := s35.new (o := .tup [.ref tl, .ref z]) ht
      obtain ⟨G', gg, igg⟩ := push_st (c' := ⟨cc.held, cc.hopes.take i.toNat ++ cc.hopes.drop (i.toNat + 1)⟩) g3 s30 is0 hl ih3 io3 nm2 (u4.new (o := .tup [.ref tl, .ref z]) ht) (u2.free hy) (u3.free hz) nyz
        (by rw [upd_ne nyt, upd_ne nyz, upd_same]) (by rw [upd_ne nzt, upd_same])
      have hdue : due (cc :: rest) (.lift i) = (.told, ⟨cc.held, cc.hopes.take i.toNat ++ cc.hopes.drop (i.toNat + 1)⟩ :: cc :: rest) := by simp only [due, if_pos hin]
      rw [hdue] at q
      exact q t' tl z _ G' s5 gg upd_same (s35.free ht) (by rw [upd_ne nlt, upd_ne nlz, upd_ne nly, upd_ne nlx, upd_same]; rfl) (s30.free htl) igg
    · have hdue : due (cc :: rest) (.lift i) = (.badIndex i, cc :: rest) := by simp only [due, if_neg hin]
      rw [hdue] at q
      refine ⟨_, rfl, d, _, _, _, rfl, rfl, s2.seq sd, rfl, _, _, rfl, rfl, _, rfl, ?_⟩
      have tail : ∀ (HW : Hp) (l : Addr), Same H2 HW → HW l = some (.lst [.str "InvalidIndex", .int i]) → H l = none → Same H HW := fun HW l s _ _ => s2.trans s
      by_cases h0 : 0 ≤ i
      · refine ifT (decide_eq_true h0) ?_
        refine ⟨_, rfl, o1, _, rfl, .inl (s2.seq (SqL.of (sg _ _ io))), _, _, rfl, rfl, _, rfl, ifF (decide_eq_false (by rw [List.length_map, qsl]; exact fun z => hin ⟨h0, z⟩)) ?_⟩
        refine ⟨_, rfl, d, _, _, _, rfl, rfl, s2.seq sd, rfl, szL (by show 2 ≤ 1000000; decide), fun l hl0 => ?_⟩
        have hlW := upd_same (H := H2) (a := l) (o := .lst [.str "InvalidIndex", .int i])
        have hl00 : H l = none := s2.free hl0
        have sWW := s2.new (o := .lst [.str "InvalidIndex", .int i]) hl0
        generalize upd H2 l (.lst [.str "InvalidIndex", .int i]) = HW at sWW hlW ⊢
        have sl3 := sWW.seq (K := K) (SqL.of (sg _ _ io))
        refine ⟨_, rfl, _, rfl, d, _, _, _, rfl, rfl, sWW.seq sd, rfl, _, _, rfl, ((i.toNat : Nat) : Int), congrArg V.int hm, o1, _, rfl, sl3, fun xa hxa => ?_⟩
        rw [cutV_to] at *
        have t1 := (Same.refl HW).new (o := .lst ((qs.map V.ref).take i.toNat)) hxa
        refine ⟨_, rfl, _, rfl, d, _, _, _, rfl, rfl, (sWW.trans t1).seq sd, rfl, _, _, rfl, _, _, rfl, rfl, ((i.toNat + 1 : Nat) : Int), congrArg V.int (by rw [hm]; rfl), o1, _, rfl, t1.seq sl3, fun xb hxb => ?_⟩
        rw [cutV_from] at *
        have t2 := t1.new (o := .lst ((qs.map V.ref).drop (i.toNat + 1))) hxb
        have nab : xa ≠ xb := ne_of_none upd_same hxb
        refine ⟨xa, xb, _, _, rfl, rfl, by rw [upd_ne nab, upd_same], upd_same, szL (by simp only [List.length_take, List.length_drop, List.length_map]; omega), fun pk2 hpk2 => ?_⟩
        have t3 := t2.new (o := .lst ((qs.map V.ref).take i.toNat ++ (qs.map V.ref).drop (i.toNat + 1))) hpk2
        have h7k := upd_same (H := upd (upd HW xa (.lst ((qs.map V.ref).take i.toNat))) xb (.lst ((qs.map V.ref).drop (i.toNat + 1)))) (a := pk2) (o := .lst ((qs.map V.ref).take i.toNat ++ (qs.map V.ref).drop (i.toNat + 1)))
        have f7k : HW pk2 = none := t2.free hpk2
        generalize hHH3 : upd (upd (upd HW xa (.lst ((qs.map V.ref).take i.toNat))) xb (.lst ((qs.map V.ref).drop (i.toNat + 1)))) pk2 (.lst ((qs.map V.ref).take i.toNat ++ (qs.map V.ref).drop (i.toNat + 1))) = H3 at t3 h7k ⊢
        have s30 := sWW.trans t3
        have hl3 := t3 _ _ hlW
        refine ⟨_, rfl, rfl, _, rfl, ifF rfl ?_⟩
        refine ⟨_, rfl, _, rfl, szL (by show 2 ≤ 1000000; decide), fun t' ht => ?_⟩
        have nlt : l ≠ t' := ne_of_none hl3 ht
        exact q t' l a _ G (s30.new ht) (Grow.of sg (s30.new ht)) upd_same (s30.free ht) (by rw [upd_ne nlt, hl3]; rfl) hl00 is0
      · refine ifF (decide_eq_false h0) ?_
        refine ⟨_, rfl, ifF rfl ?_⟩
        refine ⟨_, rfl, d, _, _, _, rfl, rfl, s2.seq sd, rfl, szL (by show 2 ≤ 1000000; decide), fun l hl0 => ?_⟩
        have hlW := upd_same (H := H2) (a := l) (o := .lst [.str "InvalidIndex", .int i])
        have hl00 : H l = none := s2.free hl0
        have sWW := s2.new (o := .lst [.str "InvalidIndex", .int i]) hl0
        generalize upd H2 l (.lst [.str "InvalidIndex", .int i]) = HW at sWW hlW ⊢
        have sl3 := sWW.seq (K := K) (SqL.of (sg _ _ io))
        refine ⟨_, rfl, _, rfl, d, _, _, _, rfl, rfl, sWW.seq sd, rfl, _, _, rfl, ((i.toNat : Nat) : Int), congrArg V.int hm, o1, _, rfl, sl3, fun xa hxa => ?_⟩
        rw [cutV_to] at *
        have t1 := (Same.refl HW).new (o := .lst ((qs.map V.ref).take i.toNat)) hxa
        refine ⟨_, rfl, _, rfl, d, _, _, _, rfl, rfl, (sWW.trans t1).seq sd, rfl, _, _, rfl, _, _, rfl, rfl, ((i.toNat + 1 : Nat) : Int), congrArg V.int (by rw [hm]; rfl), o1, _, rfl, t1.seq sl3, fun xb hxb => ?_⟩
        rw [cutV_from] at *
        have t2 := t1.new (o := .lst ((qs.map V.ref).drop (i.toNat + 1))) hxb
        have nab : xa ≠ xb := ne_of_none upd_same hxb
        refine ⟨xa, xb, _, _, rfl, rfl, by rw [upd_ne nab, upd_same], upd_same, szL (by simp only [List.length_take, List.length_drop, List.length_map]; omega), fun pk2 hpk2 => ?_⟩
        have t3 := t2.new (o := .lst ((qs.map V.ref).take i.toNat ++ (qs.map V.ref).drop (i.toNat + 1))) hpk2
        have h7k := upd_same (H := upd (upd HW xa (.lst ((qs.map V.ref).take i.toNat))) xb (.lst ((qs.map V.ref).drop (i.toNat + 1)))) (a := pk2) (o := .lst ((qs.map V.ref).take i.toNat ++ (qs.map V.ref).drop (i.toNat + 1)))
        have f7k : HW pk2 = none := t2.free hpk2
        generalize hHH3 : upd (upd (upd HW xa (.lst ((qs.map V.ref).take i.toNat))) xb (.lst ((qs.map V.ref).drop (i.toNat + 1)))) pk2 (.lst ((qs.map V.ref).take i.toNat ++ (qs.map V.ref).drop (i.toNat + 1))) = H3 at t3 h7k ⊢
        have s30 := sWW.trans t3
        have hl3 := t3 _ _ hlW
        refine ⟨_, rfl, rfl, _, rfl, ifF rfl ?_⟩
        refine ⟨_, rfl, _, rfl, szL (by show 2 ≤ 1000000; decide), fun t' ht => ?_⟩
        have nlt : l ≠ t' := ne_of_none hl3 ht
        exact q t' l a _ G (s30.new ht) (Grow.of sg (s30.new ht)) upd_same (s30.free ht) (by rw [upd_ne nlt, hl3]; rfl) hl00 is0
end
end Spf
end
section
set_option maxHeartbeats 4000000
/-! What is drawn: entries, wishes, deeds, wells. -/
namespace Spf
open PySem PySem.Spec PyProof.Rows L2 L2H HotX
theorem joinL_nil : ∀ xs : List (List Nat), TL.joinL [] xs = xs.flatten
  | [] => rfl
  | [x] => by simp [TL.joinL]
  | x :: y :: r => by
    rw [TL.joinL, joinL_nil (y :: r)]
    simp
theorem join_sgn (ds : List Nat) : Txt.join "" (ds.map sgn) = wd ds := by
  have h := SX.join_S [] (ds.map fun d => [sg d])
  have e1 : (ds.map fun d => [sg d]).map SX.S = ds.map sgn := by simp [Function.comp_def, SX.S, sgn]
  rw [e1, joinL_nil] at h
  have e2 : SX.S [] = ("" : Str) := rfl
  rw [← e2, h]
  have e3 : ∀ ds : List Nat, (ds.map fun d => [sg d]).flatten = ds.map sg := fun ds => by
    induction ds with
    | nil => rfl
    | cons d ds ih => rw [List.map_cons, List.flatten_cons, ih]; rfl
  rw [e3]
  rfl
/-- an entry's list as it stands in a heap -/
def EntAt (H : Hp) (p : Addr) (e : Ent) : Prop := H p = some (.lst [.int e.b, .int e.n, .str (wd e.ds)]) ∧ EntOk e
theorem EntAt.ne {H : Hp} {p a : Addr} {e : Ent} {c : Nat} (h : EntAt H p e) (w : Well H a c) : p ≠ a := by
  rintro rfl
  obtain ⟨x0, x1, x2, hw, _⟩ := w
  rw [h.1] at hw
  simp at hw
theorem EntAt.ex {H H' : Hp} {p a : Addr} {e : Ent} (h : EntAt H p e) (n : p ≠ a) (x : Ex a H H') : EntAt H' p e := ⟨x _ _ n h.1, h.2⟩
theorem EntAt.same {H H' : Hp} {p : Addr} {e : Ent} (h : EntAt H p e) (x : Same H H') : EntAt H' p e := ⟨x _ _ h.1, h.2⟩
section
variable {P : Program} {w : World} {K : PySem.W.Frag} {mg : Str → Option Value} {base : Heap}
/-! ### _law_near -/
abbrev vLNear : List Str := ["_law_well_here", "_law_entry", "_law_base_here", "_law_places_here", "_law_name", "_law_way_here", "_law_k", "_law_turn"]
abbrev pLNear : List Str := ["_law_well_here", "_law_entry"]
theorem scLNear : FnScope vLNear pLNear (defScope (top 79)) := ⟨rfl, rfl, rfl, by decide +kernel, rfl, by decide +kernel, by decide +kernel⟩
def spNear : Sp := fun vs H Q _ => ∃ (a p : Addr) (e : Ent) (c : Nat), vs = [.ref a, .ref p] ∧ Well H a c ∧ c + 20 ≤ 2 ^ 40 ∧ EntAt H p e ∧ ∀ (l : Addr) (e' : Ent) (H' : Hp), EntAt H' l e' → H l = none → Well H' a (c + 20) → Ex a H H' → Q (.ref l) H'
theorem okLNear (T : TxtA K mg) : FnX P w K mg base CX0 false false 3 T.l_near.f T.l_near.fd pLNear spNear := by
  refine funX0 (k := 2) T.l_near.F scLNear (fun vs H Q E ⟨a, p, e, c, eq, _⟩ => eq ▸ rfl) fun cdv A outer s H vs Q E p c ⟨a, pe, ⟨b, n, ds⟩, m, eq, hw, hm, he, q⟩ => ?_
  subst eq
  have F := he.2.F
  have W := he.2.W
  have n6 := F.n6
  have b12 := F.b12
  have wl := W.len
  have d12 := W.lt12 F
  simp only at F W n6 b12 wl d12
  refine ⟨_, pss_cons (ps_asg (pv 1) (pg_unlX c.md (pgs_cons (pg_name (i := 2) scLNear.nd rfl (Or.inl rfl)) (pgs_cons (pg_name (i := 3) scLNear.nd rfl (Or.inl rfl)) (pgs_cons (pg_name (i := 4) scLNear.nd rfl (Or.inr rfl)) pgs_nil)))))
      (pss_cons (ps_set (i := 5) scLNear.nd rfl (Or.inl rfl) (pe_callX (okLDip T) (c.mono (by decide)) nogd rfl T.l_dip.mg T.l_dip.kp T.l_dip.b at00 (pa_cons (pv 0) (pa_cons pe_int pa_nil))))
      (pss_cons (ps_if (pt_cmpR op_eq (pv 5) pe_int (nomark _)) (pss_one (ps_ret (pe_lst (pa_cons (pv 2) (pa_cons (pv 3) (pa_cons (pe_join pe_str (pe_lc rfl (own := [("_law_k", 6)]) (g := gName 6) scLNear.nd (pi_list (pe_callX (okLMixed T) (c.mono (by decide)) nogd rfl T.l_mixed.mg T.l_mixed.kp T.l_mixed.b at00 (pa_cons (pv 0) (pa_cons (pv 3) pa_nil)))) (blkOk_by (N := vLNear) (sc := defScope (top 79)) (by decide +kernel)) (fun _ _ _ _ _ => (pg_name (i := 6) scLNear.nd rfl (Or.inl rfl))) (fun _ _ _ _ _ => pts_nil) (fun _ _ _ _ _ => (pe_ix ix_str (pv 4) (pv 6) (fun _ _ => rfl))))) pa_nil)))))) pss_nil)
      (pss_cons (ps_if (pt_cmpR op_lt (pv 5) pe_int (nomark _)) (pss_cons (ps_for PassesOwn.never rfl (pi_range1 rfl T.range (pa_cons (pe_op op_mul (pv 5) (pv 5)) pa_nil)) (pg_name (i := 7) scLNear.nd rfl (Or.inl rfl)) (pss_one (ps_set (i := 4) scLNear.nd rfl (Or.inr rfl) (pe_callX (okLNext T) (c.mono (by decide)) nogd rfl T.l_next.mg T.l_next.kp T.l_next.b at00 (pa_cons (pv 2) (pa_cons (pv 4) pa_nil))))))
      (pss_one (ps_ret (pe_lst (pa_cons (pv 2) (pa_cons (pv 3) (pa_cons (pv 4) pa_nil))))))) pss_nil)
      (pss_one (ps_ret (pe_lst (pa_cons (pv 2) (pa_cons (pv 3) (pa_cons (pe_callX (okLDrawnWord T) (c.mono (by decide)) nogd rfl T.l_drawn_word.mg T.l_drawn_word.kp T.l_drawn_word.b at00 (pa_cons (pv 0) (pa_cons (pv 2) (pa_cons (pv 3) pa_nil)))) pa_nil))))))))), ?_⟩
  refine ⟨_, rfl, pe, _, rfl, SqL.of he.1, rfl, _, _, rfl, _, _, rfl, _, _, rfl, rfl, ?_⟩
  refine ⟨_, rfl, a, _, m, rfl, hw, by omega, by decide, by decide, fun k H1 hk w1 e1 => ?_⟩
  refine ⟨_, rfl, rfl, _, rfl, ?_⟩
  refine ite2 (fun z => ?_) (fun z => ?_)
  · refine ⟨_, rfl, _, rfl, ⟨_, rfl⟩, _, rfl, _, rfl, a, n, m + 1, rfl, w1, by omega, by omega, fun l ks H2 hl hks h2 hl0 w2 e2 => ⟨l, rfl, ⟨_, SqL.of h2⟩, ?_⟩⟩
    intro D hD
    refine lc_mapList (K := K) (xs := ks.map fun k : Nat => V.int k) (ys := (ks.map fun k => ds.getD k 0).map fun d => V.str (sgn d)) hD (SqL.of h2) (by simp) (by simp; omega) ?_ ?_
    · intro i x H3 Qe hx s3 hq
      rw [List.getElem?_map] at hx
      cases hk : ks[i]? with
      | none => rw [hk] at hx; cases hx
      | some kk =>
        rw [hk] at hx
        cases hx
        have hkn : kk < ds.length := by rw [wl]; exact hks kk (List.mem_of_getElem? hk)
        refine ⟨rfl, rfl, _, rfl, _, rfl, wd ds, ((kk : Nat) : Int), sg (ds.getD kk 0), rfl, rfl, by rw [wd_length]; exact szL (show ds.length ≤ 1000000 by omega), atI_nat ?_, hq _ _ ?_ (Same.refl _)⟩
        · show ((ds.map sg).toArray.toList)[kk]? = some (sg (ds.getD kk 0))
          simp [List.getD_eq_getElem?_getD, List.getElem?_eq_getElem hkn]
        · simp [hk, sgn]
    · intro H3 s3 h3
      refine ⟨_, D, (ks.map fun k => ds.getD k 0).map sgn, rfl, rfl, .inl (SqL.of (by rw [h3]; simp only [List.map_map]; rfl)), ?_, szL (by show 3 ≤ 1000000; decide), fun r hr => ?_⟩
      · have : ∀ xs : List Nat, ((xs.map sgn).map (·.length)).sum = xs.length := fun xs => by
          induction xs with
          | nil => rfl
          | cons x xs ih => simp only [List.map_cons, List.sum_cons, ih, strlen_sgn, List.length_cons]; omega
        rw [this, List.length_map, List.length_map, List.length_map]
        show ks.length + ks.length * 0 ≤ 16777216
        omega
      · have e3 : Ex a H1 H3 := e2.trans (Ex.of_same s3)
        have hD0 := (e1.trans e3)
        obtain ⟨_, _, _, ha3, _⟩ := id (w2.same s3)
        rw [join_sgn]
        refine q r ⟨b, n, ks.map fun k => ds.getD k 0⟩ _ ⟨upd_same, F, ⟨by simp [hl], fun d hd => ?_⟩⟩ (hD0.free ha3 hr) ((w2.same (s3.new hr)).mono (by omega)) (hD0.new hr)
        obtain ⟨k, hk, rfl⟩ := List.mem_map.mp hd
        have hkn : k < ds.length := by rw [wl]; exact hks k hk
        rw [List.getD_eq_getElem?_getD, List.getElem?_eq_getElem hkn]
        exact W.lt _ (List.getElem_mem hkn)
  · refine ⟨_, rfl, _, _, rfl, rfl, _, rfl, ?_⟩
    refine ite2 (fun z2 => ?_) (fun z2 => ?_)
    · have hk3 : (k : Int) < 3 := of_decide_eq_true z2
      refine ⟨_, rfl, _, rfl, _, _, rfl, rfl, .inl ⟨by omega, by omega⟩, (k : Int) * k, rfl, ?_, ?_, ?_⟩
      · have : 0 ≤ (k : Int) * k := Int.mul_nonneg (by omega) (by omega)
        omega
      · have : (k : Int) * k ≤ 3 * 3 := Int.mul_le_mul (by omega) (by omega) (by omega) (by omega)
        omega
      refine for_range (fun i σ H' => Same H1 H' ∧ ∃ (xs : List Nat) (u : Option V), σ = [some (.ref a), some (.ref pe), some (.int b), some (.int n), some (.str (wd xs)), some (.int k), none, u] ∧ Wd b n xs) ⟨Same.refl _, ds, _, rfl, W⟩ ?_ ?_
      · rintro i σ H' hi ⟨s2, xs, u, rfl, wx⟩
        exact ⟨_, rfl, _, rfl, b, n, xs, rfl, F, wx, fun H3 s3 => ⟨s2.trans s3, nxt b xs, _, rfl, nxt_wd F wx⟩⟩
      · rintro σ H' ⟨s2, xs, u, rfl, wx⟩
        refine ⟨_, rfl, _, rfl, _, rfl, szL (by show 3 ≤ 1000000; decide), fun r hr => ?_⟩
        have e2 := e1.trans (Ex.of_same s2)
        obtain ⟨_, _, _, ha3, _⟩ := id (w1.same s2)
        exact q r ⟨b, n, xs⟩ _ ⟨upd_same, F, wx⟩ (e2.free ha3 hr) ((w1.same (s2.new hr)).mono (by omega)) (e2.new hr)
    · refine ⟨_, rfl, _, rfl, _, rfl, _, rfl, _, rfl, a, b, n, m + 1, rfl, w1, by omega, F, fun xs H2 wx w2 e2 => ⟨szL (by show 3 ≤ 1000000; decide), fun r hr => ?_⟩⟩
      obtain ⟨_, _, _, ha3, _⟩ := id w2
      exact q r ⟨b, n, xs⟩ _ ⟨upd_same, F, wx⟩ ((e1.trans e2).free ha3 hr) ((w2.same ((Same.refl _).new hr)).mono (by omega)) ((e1.trans e2).new hr)
/-! ### _law_entries -/
abbrev vLEntries : List Str := ["_law_well_here", "_law_base_here", "_law_places_here", "_law_found", "_law_turn", "_law_far_base", "_law_far_places"]
abbrev pLEntries : List Str := ["_law_well_here"]
theorem scLEntries : FnScope vLEntries pLEntries (defScope (top 80)) := ⟨rfl, rfl, rfl, by decide +kernel, rfl, by decide +kernel, by decide +kernel⟩
def spEntries : Sp := fun vs H Q _ => ∃ (a : Addr) (c : Nat), vs = [.ref a] ∧ Well H a c ∧ c + 200 ≤ 2 ^ 40 ∧ ∀ (l : Addr) (ps : List Addr) (es : List Ent) (H' : Hp), H' l = some (.lst (ps.map V.ref)) → ps.length = 6 → Paired (EntAt H') ps es → H l = none → Well H' a (c + 200) → Ex a H H' → Q (.ref l) H'
theorem okLEntries (T : TxtA K mg) : FnX P w K mg base CX0 false false 4 T.l_entries.f T.l_entries.fd pLEntries spEntries := by
  refine funX0 (k := 3) T.l_entries.F scLEntries (fun vs H Q E ⟨a, c, eq, _⟩ => eq ▸ rfl) fun cdv A outer s H vs Q E p c ⟨a, m, eq, hw, hm, q⟩ => ?_
  subst eq
  refine ⟨_, pss_cons (ps_asg (pe_callX (okLGround T) (c.mono (by decide)) nogd rfl T.l_ground.mg T.l_ground.kp T.l_ground.b at00 (pa_cons (pv 0) (pa_cons (pe_op op_pow pe_int pe_int) pa_nil))) (pg_unlX c.md (pgs_cons (pg_name (i := 1) scLEntries.nd rfl (Or.inl rfl)) (pgs_cons (pg_name (i := 2) scLEntries.nd rfl (Or.inl rfl)) pgs_nil))))
      (pss_cons (ps_set (i := 3) scLEntries.nd rfl (Or.inl rfl) (pe_lst (pa_cons (pe_lst (pa_cons (pv 1) (pa_cons (pv 2) (pa_cons (pe_callX (okLDrawnWord T) (c.mono (by decide)) nogd rfl T.l_drawn_word.mg T.l_drawn_word.kp T.l_drawn_word.b at00 (pa_cons (pv 0) (pa_cons (pv 1) (pa_cons (pv 2) pa_nil)))) pa_nil)))) pa_nil)))
      (pss_cons (ps_for PassesOwn.never rfl (pi_range1 rfl T.range (pa_cons pe_int pa_nil)) (pg_name (i := 4) scLEntries.nd rfl (Or.inl rfl)) (pss_one (ps_expr (pe_bm PySem.F.plainAttrs_list PySem.F.slot_list_append PySem.F.type_list_append mt_append (pv 3) (pa_cons (pe_callX (okLNear T) (c.mono (by decide)) nogd rfl T.l_near.mg T.l_near.kp T.l_near.b at00 (pa_cons (pv 0) (pa_cons (pe_callX (okLOf T) (c.mono (by decide)) nogd rfl T.l_of.mg T.l_of.kp T.l_of.b at00 (pa_cons (pv 0) (pa_cons (pv 3) pa_nil))) pa_nil))) pa_nil)))))
      (pss_cons (ps_asg (pe_callX (okLGround T) (c.mono (by decide)) nogd rfl T.l_ground.mg T.l_ground.kp T.l_ground.b at00 (pa_cons (pv 0) (pa_cons (pe_op op_pow pe_int pe_int) pa_nil))) (pg_unlX c.md (pgs_cons (pg_name (i := 5) scLEntries.nd rfl (Or.inl rfl)) (pgs_cons (pg_name (i := 6) scLEntries.nd rfl (Or.inl rfl)) pgs_nil))))
      (pss_one (ps_ret (pe_op op_cat (pv 3) (pe_lst (pa_cons (pe_lst (pa_cons (pv 5) (pa_cons (pv 6) (pa_cons (pe_callX (okLDrawnWord T) (c.mono (by decide)) nogd rfl T.l_drawn_word.mg T.l_drawn_word.kp T.l_drawn_word.b at00 (pa_cons (pv 0) (pa_cons (pv 5) (pa_cons (pv 6) pa_nil)))) pa_nil)))) pa_nil)))))))), ?_⟩
  refine ⟨_, rfl, _, _, rfl, rfl, ⟨by decide, by decide, by decide⟩, a, m, rfl, hw, by omega, fun g b n H1 F h1 hg w1 e1 => ?_⟩
  refine ⟨g, _, rfl, SqL.of h1, rfl, _, _, rfl, _, _, rfl, rfl, ?_⟩
  refine ⟨_, rfl, _, rfl, _, rfl, _, rfl, _, rfl, a, b, n, m + 2, rfl, w1, by omega, F, fun ds H2 W w2 e2 => ⟨szL (by show 3 ≤ 1000000; decide), fun r hr => ⟨szL (by show 1 ≤ 1000000; decide), fun f hf => ?_⟩⟩⟩
  have e3 := e1.trans e2
  have s2 := (Same.refl H2).new (o := .lst [.int b, .int n, .str (wd ds)]) hr
  have nrf : r ≠ f := ne_of_none upd_same hf
  have s3 := s2.new (o := .lst [.ref r]) hf
  have hf0 : H f = none := by
    obtain ⟨_, _, _, ha, _⟩ := id (w2.same s2)
    exact (e3.trans (Ex.of_same s2)).free ha hf
  have w3 := w2.same s3
  have e4 := e3.trans (Ex.of_same s3)
  have h3 : upd (upd H2 r (.lst [.int b, .int n, .str (wd ds)])) f (.lst [.ref r]) f = some (.lst (([r] : List Addr).map V.ref)) := upd_same
  have hp3 : Paired (EntAt (upd (upd H2 r (.lst [.int b, .int n, .str (wd ds)])) f (.lst [.ref r]))) [r] [⟨b, n, ds⟩] := .cons ⟨by rw [upd_ne nrf, upd_same], F, W⟩ .nil
  generalize upd (upd H2 r (.lst [.int b, .int n, .str (wd ds)])) f (.lst [.ref r]) = H3 at w3 e4 h3 hp3 ⊢
  refine ⟨4, rfl, by decide, by decide, for_range (n := 4) (fun i σ H' => ∃ (ps : List Addr) (es : List Ent) (u : Option V), σ = [some (.ref a), some (.int b), some (.int n), some (.ref f), u, none, none] ∧ H' f = some (.lst (ps.map V.ref)) ∧ ps.length = i + 1 ∧ Paired (EntAt H') ps es ∧ Well H' a (m + 16 + 21 * i) ∧ Ex a H H')
    ⟨[r], _, _, rfl, h3, rfl, hp3, w3.mono (by omega), e4⟩ ?_ ?_⟩
  · rintro i σ H' hi ⟨ps, es, u, rfl, h4, hpl, hpp, w4, e5⟩
    have nfa : f ≠ a := by
      rintro rfl
      obtain ⟨_, _, _, ha, _⟩ := id w4
      rw [h4] at ha
      cases ps with
      | nil => simp at hpl
      | cons _ _ => simp at ha
    refine ⟨_, rfl, .inl ⟨rfl, _, SqL.of h4⟩, _, rfl, _, rfl, _, rfl, a, f, _, m + 16 + 21 * i, rfl, w4, by omega, SqL.of h4, nfa, by rw [List.length_map]; omega, by rw [List.length_map]; omega, fun j x H5 hx w5 e6 => ?_⟩
    rw [List.getElem?_map] at hx
    cases hj : ps[j]? with
    | none => rw [hj] at hx; cases hx
    | some pj =>
      rw [hj] at hx
      cases hx
      obtain ⟨ej, _, hej⟩ := Paired.at' hpp j pj hj
      refine ⟨a, pj, ej, m + 16 + 21 * i + 1, rfl, w5, by omega, hej.ex (hej.ne w4) e6, fun l e' H6 hl' hl0 w6 e7 => ?_⟩
      have h6f : H6 f = some (.lst (ps.map V.ref)) := e7 _ _ nfa (e6 _ _ nfa h4)
      have nlf : l ≠ f := by
        rintro rfl
        rw [e6 _ _ nfa h4] at hl0
        cases hl0
      refine ⟨f, _, _, rfl, rfl, h6f, by rw [List.length_map]; exact szLt (by omega), ?_⟩
      have ex7 : ∀ p e, EntAt H' p e → EntAt (upd H6 f (.lst (ps.map V.ref ++ [V.ref l]))) p e := fun p e he => by
        have n1 : p ≠ f := by
          rintro rfl
          have := he.1
          rw [h4] at this
          cases ps with
          | nil => simp at hpl
          | cons _ _ => simp at this
        have := (he.ex (he.ne w4) e6).ex (he.ne w4) e7
        exact ⟨by rw [upd_ne n1]; exact this.1, this.2⟩
      refine ⟨ps ++ [l], es ++ [e'], _, rfl, by rw [upd_same]; simp, by simp [hpl], (hpp.mono ex7).snoc ⟨by rw [upd_ne nlf]; exact hl'.1, hl'.2⟩, ?_, ?_⟩
      · obtain ⟨x0, x1, x2, e, r⟩ := w6.mono (show m + 16 + 21 * i + 1 + 20 ≤ m + 16 + 21 * (i + 1) by omega)
        exact ⟨x0, x1, x2, by rw [upd_ne nfa.symm]; exact e, r⟩
      · intro b o hb hB
        rw [upd_ne (ne_of_none hB hf0)]
        exact e7 _ _ hb (e6 _ _ hb (e5 _ _ hb hB))
  · rintro σ H' ⟨ps, es, u, rfl, h4, hpl, hpp, w4, e5⟩
    have nfa : f ≠ a := by
      rintro rfl
      obtain ⟨_, _, _, ha, _⟩ := id w4
      rw [h4] at ha
      cases ps with
      | nil => simp at hpl
      | cons _ _ => simp at ha
    refine ⟨_, rfl, _, _, rfl, rfl, ⟨by decide, by decide, by decide⟩, a, m + 100, rfl, w4.mono (by omega), by omega, fun g b n H5 F5 h5 hg w5 e6 => ?_⟩
    refine ⟨g, _, rfl, SqL.of h5, rfl, _, _, rfl, _, _, rfl, rfl, ?_⟩
    refine ⟨_, rfl, _, rfl, _, rfl, _, rfl, _, rfl, _, rfl, a, b, n, m + 102, rfl, w5, by omega, F5, fun ds H6 W w6 e7 => ⟨szL (by show 3 ≤ 1000000; decide), fun x hx => ⟨szL (by show 1 ≤ 1000000; decide), fun y hy => ?_⟩⟩⟩
    have nxy : x ≠ y := ne_of_none upd_same hy
    have t1 := (Same.refl H6).new (o := .lst [.int b, .int n, .str (wd ds)]) hx
    have t2 := t1.new (o := .lst [.ref x]) hy
    have h6f : H6 f = some (.lst (ps.map V.ref)) := e7 _ _ nfa (e6 _ _ nfa h4)
    refine ⟨f, y, _, _, rfl, rfl, t2 _ _ h6f, upd_same, szL (by simp; omega), fun z hz => ?_⟩
    have t3 := t2.new (o := .lst (ps.map V.ref ++ [V.ref x])) hz
    have ex : Ex a H (upd (upd (upd H6 x (.lst [.int b, .int n, .str (wd ds)])) y (.lst [.ref x])) z (.lst (ps.map V.ref ++ [V.ref x]))) := ((e5.trans e6).trans e7).trans (Ex.of_same t3)
    have nxz : x ≠ z := ne_of_none (by rw [upd_ne nxy, upd_same]) hz
    obtain ⟨_, _, _, ha6, _⟩ := id (w6.same t2)
    refine q z (ps ++ [x]) (es ++ [⟨b, n, ds⟩]) _ (by rw [upd_same]; simp) (by simp [hpl]) ((hpp.mono fun p e he => ((he.ex (he.ne w4) e6).ex (he.ne w4) e7).same t3).snoc ⟨by rw [upd_ne nxz, upd_ne nxy, upd_same], F5, W⟩) ((((e5.trans e6).trans e7).trans (Ex.of_same t2)).free ha6 hz) ((w6.same t3).mono (by omega)) ex
end
end Spf
end
section
set_option maxHeartbeats 4000000
/-! What is drawn: wishes, deeds, wells. -/
namespace Spf
open PySem PySem.Spec PyProof.Rows L2 L2H HotX
theorem Ex.ghost {a : Addr} {G H H' : Hp} (s : Same G H) (h : G a = none) (e : Ex a H H') : Same G H' := fun b o hb => e b o (ne_of_none hb h) (s b o hb)
theorem Well.new {H : Hp} {a l : Addr} {c : Nat} {o : HO} (w : Well H a c) (h : H l = none) : Well (upd H l o) a c := w.same ((Same.refl _).new h)
theorem Well.ne {H : Hp} {a l : Addr} {c : Nat} (w : Well H a c) (h : H l = none) : l ≠ a := by
  rintro rfl
  obtain ⟨_, _, _, e, _⟩ := w
  rw [h] at e
  cases e
theorem held_dget {G H : Hp} {h : Addr} {hd : Held} (ih : IsHeld G h hd) (s : Same G H) (t : Str) : (look hd t = none ∧ DGet H h (.str t) none) ∨ ∃ p e, look hd t = some e ∧ DGet H h (.str t) (some (.ref p)) ∧ EntAt H p e := by
  obtain ⟨kvs, hk, hv⟩ := held_get ih (t := t)
  have dg := (Le.of s).dget (k := Sum.inr t) hk
  rcases hv with ⟨e1, e2⟩ | ⟨p, e, e1, e2, e3⟩
  · rw [e2] at dg
    exact .inl ⟨e1, dg⟩
  · rw [e2] at dg
    exact .inr ⟨p, e, e1, dg, s _ _ e3.1, e3.2⟩
section
variable {P : Program} {w : World} {K : PySem.W.Frag} {mg : Str → Option Value} {base : Heap}
/-! ### _law_hope -/
abbrev vLHope : List Str := ["_law_well_here", "_law_held", "_law_tags", "_law_kind", "_law_tag", "_law_mate", "_law_most", "_law_size_here"]
abbrev pLHope : List Str := ["_law_well_here", "_law_held", "_law_tags"]
theorem scLHope : FnScope vLHope pLHope (defScope (top 81)) := ⟨rfl, rfl, rfl, by decide +kernel, rfl, by decide +kernel, by decide +kernel⟩
def spHope : Sp := fun vs H Q _ => ∃ (G : Hp) (a h tg : Addr) (hd : Held) (ts : List Str) (c : Nat), vs = [.ref a, .ref h, .ref tg] ∧ Same G H ∧ G a = none ∧ IsHeld G h hd ∧ H tg = some (.lst (ts.map V.str)) ∧ 0 < ts.length ∧ ts.length ≤ 1000 ∧ Well H a c ∧ c + 10 ≤ 2 ^ 40 ∧
  ∀ (p : Addr) (w : Wish) (H' : Hp), H' p = some (.tup (wishV w)) → w.sane → (∀ t ∈ w.tags, t ∈ ts) → H p = none → Well H' a (c + 10) → Ex a H H' → Q (.ref p) H'
theorem okLHope (T : TxtA K mg) : FnX P w K mg base CX0 false false 5 T.l_hope.f T.l_hope.fd pLHope spHope := by
  refine funX0 (k := 4) T.l_hope.F scLHope (fun vs H Q E ⟨G, a, h, tg, hd, ts, c, eq, _⟩ => eq ▸ rfl) fun cdv A outer s H vs Q E p c ⟨G, a, h, tg, hd, ts, m, eq, sg, ga, ih, ht, ht0, ht1, hw, hm, q⟩ => ?_
  subst eq
  refine ⟨_, pss_cons (ps_par3 (i := 3) (j := 4) (l := 5) (by rfl) scLHope.nd rfl rfl rfl (by decide) (by decide) (by decide) rfl rfl rfl (pa_cons (pe_callX (okLDip T) (c.mono (by decide)) nogd rfl T.l_dip.mg T.l_dip.kp T.l_dip.b at00 (pa_cons (pv 0) (pa_cons pe_int pa_nil))) (pa_cons (pe_callX (okLOf T) (c.mono (by decide)) nogd rfl T.l_of.mg T.l_of.kp T.l_of.b at00 (pa_cons (pv 0) (pa_cons (pv 2) pa_nil))) (pa_cons (pe_callX (okLOf T) (c.mono (by decide)) nogd rfl T.l_of.mg T.l_of.kp T.l_of.b at00 (pa_cons (pv 0) (pa_cons (pv 2) pa_nil))) pa_nil))) (by rfl))
      (pss_cons (ps_if (pt_cmpR op_eq (pv 3) pe_int (nomark _)) (pss_one (ps_ret (pe_tup (pa_cons pe_str (pa_cons (pv 4) pa_nil))))) pss_nil)
      (pss_cons (ps_if (pt_cmpR op_lt (pv 3) pe_int (nomark _)) (pss_cons (ps_set (i := 6) scLHope.nd rfl (Or.inl rfl) (pe_ifExp (pt_cmp (pc_din c.u1 (pv 4) (pv 1))) (pe_ix ix_list (pe_callX (okLPath T) (c.mono (by decide)) nogd rfl T.l_path.mg T.l_path.kp T.l_path.b at00 (pa_cons (pe_ix ix_list (pe_dget c.u1 (pv 1) (pv 4) (fun _ _ => rfl)) pe_int (fun _ _ => rfl)) (pa_cons (pe_ix ix_list (pe_dget c.u1 (pv 1) (pv 4) (fun _ _ => rfl)) pe_int (fun _ _ => rfl)) pa_nil))) pe_int (fun _ _ => rfl)) pe_int))
      (pss_one (ps_ret (pe_tup (pa_cons pe_str (pa_cons (pv 4) (pa_cons (pe_callB (call_max2 rfl) (by rfl) T.max (by decide +kernel) (pa_cons pe_int (pa_cons (pe_op op_add (pv 6) (pe_callX (okLOf T) (c.mono (by decide)) nogd rfl T.l_of.mg T.l_of.kp T.l_of.b at00 (pa_cons (pv 0) (pa_cons (pe_lst (pa_cons pe_int (pa_cons pe_int (pa_cons pe_int (pa_cons (pe_un un_neg pe_int) (pa_cons pe_int pa_nil)))))) pa_nil)))) pa_nil))) pa_nil))))))) pss_nil)
      (pss_cons (ps_if (pt_cmpR op_eq (pv 3) pe_int (nomark _)) (pss_cons (ps_set (i := 7) scLHope.nd rfl (Or.inl rfl) (pe_ifExp (pt_cmp (pc_din c.u1 (pv 4) (pv 1))) (pe_callB call_len_seq (by rfl) T.len PySem.boot_len (pa_cons (pe_callX (okLRing T) (c.mono (by decide)) nogd rfl T.l_ring.mg T.l_ring.kp T.l_ring.b at00 (pa_cons (pe_ix ix_list (pe_dget c.u1 (pv 1) (pv 4) (fun _ _ => rfl)) pe_int (fun _ _ => rfl)) (pa_cons (pe_ix ix_list (pe_dget c.u1 (pv 1) (pv 4) (fun _ _ => rfl)) pe_int (fun _ _ => rfl)) pa_nil))) pa_nil)) pe_int))
      (pss_one (ps_ret (pe_tup (pa_cons pe_str (pa_cons (pv 4) (pa_cons (pe_callX (okLOf T) (c.mono (by decide)) nogd rfl T.l_of.mg T.l_of.kp T.l_of.b at00 (pa_cons (pv 0) (pa_cons (pe_lst (pa_cons (pv 7) (pa_cons (pv 7) (pa_cons (pv 7) (pa_cons (pe_op op_add (pv 7) pe_int) (pa_cons pe_int (pa_cons pe_int pa_nil))))))) pa_nil))) pa_nil))))))) pss_nil)
      (pss_one (ps_ret (pe_tup (pa_cons (pe_ifExp (pt_cmpR op_eq (pv 3) pe_int (nomark _)) pe_str pe_str) (pa_cons (pv 4) (pa_cons (pv 5) pa_nil))))))))), ?_⟩
  have nta : tg ≠ a := by
    rintro rfl
    obtain ⟨_, _, _, e, _⟩ := id hw
    rw [ht] at e
    cases ts with
    | nil => simp at ht0
    | cons _ _ => simp at e
  refine ⟨_, rfl, a, _, m, rfl, hw, by omega, by decide, by decide, fun kd H1 hkd w1 e1 => ?_⟩
  refine ⟨_, rfl, _, rfl, a, tg, _, m + 1, rfl, w1, by omega, SqL.of (e1 _ _ nta ht), nta, by rw [List.length_map]; omega, by rw [List.length_map]; omega, fun j1 x1 H2 hj1 w2 e2 => ?_⟩
  refine ⟨_, rfl, _, rfl, a, tg, _, m + 2, rfl, w2, by omega, SqL.of ((e1.trans e2) _ _ nta ht), nta, by rw [List.length_map]; omega, by rw [List.length_map]; omega, fun j2 x2 H3 hj2 w3 e3 => ?_⟩
  have mem : ∀ (j : Nat) (x : V), (ts.map V.str)[j]? = some x → ∃ t, x = .str t ∧ t ∈ ts := fun j x hj => by
    obtain ⟨t, ht, e⟩ := List.mem_map.mp (List.mem_of_getElem? hj)
    exact ⟨t, e.symm, ht⟩
  obtain ⟨t, rfl, htm⟩ := mem _ _ hj1
  obtain ⟨u, rfl, hum⟩ := mem _ _ hj2
  have e13 := (e1.trans e2).trans e3
  have s3 := Ex.ghost sg ga e13
  refine ⟨_, _, _, rfl, ?_⟩
  refine ⟨_, rfl, rfl, _, rfl, ite2 (fun z => ?_) (fun z => ?_)⟩
  · refine ⟨_, rfl, szL (by show 2 ≤ 1000000; decide), fun x hx => ?_⟩
    obtain ⟨_, _, _, ha3, _⟩ := id w3
    exact q x (.still t) _ upd_same trivial (fun v hv => by simp [Wish.tags] at hv; exact hv ▸ htm) (e13.free ha3 hx) ((w3.new hx).mono (by omega)) (e13.new hx)
  refine ⟨_, rfl, _, _, rfl, rfl, _, rfl, ite2 (fun z => ?_) (fun z => ?_)⟩
  · rcases held_dget ih s3 t with ⟨_, dg⟩ | ⟨pe, ⟨b, n, ds⟩, hl, dg, he⟩
    · refine ⟨_, rfl, _, rfl, h, _, rfl, dg, _, rfl, ifF rfl ?_⟩
      have w4 := w3
      have e14 := e13
      generalize H3 = H4 at w4 e14 ⊢
      refine ⟨_, rfl, _, rfl, _, rfl, 1, rfl, szL (by show 5 ≤ 1000000; decide), fun x hx => ?_⟩
      refine ⟨a, x, _, m + 3, rfl, w4.new hx, by omega, SqL.of upd_same, w4.ne hx, by show 0 < 5; decide, by show 5 < 2 ^ 30; decide, fun j y H5 hy w5 e5 => ?_⟩
      obtain ⟨dl, rfl, hdl⟩ : ∃ i, y = V.int i ∧ i ≤ 5 := by
        have := List.mem_of_getElem? hy
        simp at this
        rcases this with h | h | h | h <;> exact ⟨_, h, by decide⟩
      have e15 := (e14.new (o := .lst [.int 0, .int 0, .int 1, .int (-1), .int 5]) hx).trans e5
      refine ⟨_, _, rfl, rfl, _, _, rfl, szL (by show 3 ≤ 1000000; decide), fun y hy => ?_⟩
      obtain ⟨_, _, _, ha5, _⟩ := id w5
      refine q y (.steps t _) _ upd_same ?_ (fun v hv => by simp [Wish.tags] at hv; exact hv ▸ htm) (e15.free ha5 hy) ((w5.new hy).mono (by omega)) (e15.new hy)
      show (0 : Int) ≤ (if _ > (0 : Int) then _ else 0) ∧ (if _ > (0 : Int) then _ else 0) ≤ (2000000 : Int)
      constructor <;> split <;> omega
    · refine ⟨_, rfl, _, rfl, h, _, rfl, dg, _, rfl, ifT rfl ?_⟩
      refine ⟨_, rfl, _, rfl, h, _, rfl, dg, pe, _, _, _, rfl, rfl, SqL.of he.1, rfl, _, rfl, _, rfl, h, _, rfl, dg, pe, _, _, _, rfl, rfl, SqL.of he.1, rfl, b, n, ds, rfl, he.2.F, he.2.W, fun l r H4 s4 hl4 _ _ _ _ => ⟨l, _, _, _, rfl, rfl, SqL.of hl4, rfl, ?_⟩⟩
      have w4 := w3.same s4
      have e14 := e13.trans (Ex.of_same s4)
      refine ⟨_, rfl, _, rfl, _, rfl, 1, rfl, szL (by show 5 ≤ 1000000; decide), fun x hx => ?_⟩
      refine ⟨a, x, _, m + 3, rfl, w4.new hx, by omega, SqL.of upd_same, w4.ne hx, by show 0 < 5; decide, by show 5 < 2 ^ 30; decide, fun j y H5 hy w5 e5 => ?_⟩
      obtain ⟨dl, rfl, hdl⟩ : ∃ i, y = V.int i ∧ i ≤ 5 := by
        have := List.mem_of_getElem? hy
        simp at this
        rcases this with h | h | h | h <;> exact ⟨_, h, by decide⟩
      have e15 := (e14.new (o := .lst [.int 0, .int 0, .int 1, .int (-1), .int 5]) hx).trans e5
      refine ⟨_, _, rfl, rfl, _, _, rfl, szL (by show 3 ≤ 1000000; decide), fun y hy => ?_⟩
      obtain ⟨_, _, _, ha5, _⟩ := id w5
      refine q y (.steps t _) _ upd_same ?_ (fun v hv => by simp [Wish.tags] at hv; exact hv ▸ htm) (e15.free ha5 hy) ((w5.new hy).mono (by omega)) (e15.new hy)
      have hst := steps_le he.2.F he.2.W
      show (0 : Int) ≤ (if _ > (0 : Int) then _ else 0) ∧ (if _ > (0 : Int) then _ else 0) ≤ (2000000 : Int)
      simp only at hst
      constructor <;> split <;> omega
  refine ⟨_, rfl, rfl, _, rfl, ite2 (fun z => ?_) (fun z => ?_)⟩
  · rcases held_dget ih s3 t with ⟨_, dg⟩ | ⟨pe, ⟨b, n, ds⟩, hl, dg, he⟩
    · refine ⟨_, rfl, _, rfl, h, _, rfl, dg, _, rfl, ifF rfl ?_⟩
      have w4 := w3
      have e14 := e13
      generalize H3 = H4 at w4 e14 ⊢
      have hsz : (0 : Int) ≤ 1 := by decide
      have hsz2 : (1 : Int) ≤ 1000000 := by decide
      refine ⟨_, rfl, _, rfl, _, rfl, _, rfl, _, rfl, _, rfl, _, _, rfl, rfl, szL (by show 6 ≤ 1000000; decide), fun x hx => ?_⟩
      refine ⟨a, x, _, m + 3, rfl, w4.new hx, by omega, SqL.of upd_same, w4.ne hx, by show 0 < 6; decide, by show 6 < 2 ^ 30; decide, fun j y H5 hy w5 e5 => ?_⟩
      obtain ⟨dl, rfl, hdl⟩ : ∃ i, y = V.int i ∧ (0 ≤ i ∧ i ≤ 2000000) := by
        have := List.mem_of_getElem? hy
        simp only [List.mem_cons, List.not_mem_nil, or_false] at this
        rcases this with h | h | h | h | h | h <;> refine ⟨_, h, ?_⟩ <;> omega
      have e15 := (e14.new (o := .lst _) hx).trans e5
      refine ⟨szL (by show 3 ≤ 1000000; decide), fun y hy => ?_⟩
      obtain ⟨_, _, _, ha5, _⟩ := id w5
      exact q y (.ring t dl) _ upd_same hdl (fun v hv => by simp [Wish.tags] at hv; exact hv ▸ htm) (e15.free ha5 hy) ((w5.new hy).mono (by omega)) (e15.new hy)
    · refine ⟨_, rfl, _, rfl, h, _, rfl, dg, _, rfl, ifT rfl ?_⟩
      refine ⟨_, rfl, _, rfl, h, _, rfl, dg, pe, _, _, _, rfl, rfl, SqL.of he.1, rfl, _, rfl, _, rfl, h, _, rfl, dg, pe, _, _, _, rfl, rfl, SqL.of he.1, rfl, b, n, ds, rfl, he.2.F, he.2.W, fun l H4 s4 hl4 _ => ⟨l, _, rfl, .inr (SqT.of hl4), ?_⟩⟩
      have w4 := w3.same s4
      have e14 := e13.trans (Ex.of_same s4)
      have hsz : (0 : Int) ≤ (((ring b ds).map V.str).length : Nat) := by omega
      have hsz2 : ((((ring b ds).map V.str).length : Nat) : Int) ≤ 1000000 := by
        have := ring_le he.2.F he.2.W
        rw [List.length_map]
        exact Int.ofNat_le.mpr this
      refine ⟨_, rfl, _, rfl, _, rfl, _, rfl, _, rfl, _, rfl, _, _, rfl, rfl, szL (by show 6 ≤ 1000000; decide), fun x hx => ?_⟩
      refine ⟨a, x, _, m + 3, rfl, w4.new hx, by omega, SqL.of upd_same, w4.ne hx, by show 0 < 6; decide, by show 6 < 2 ^ 30; decide, fun j y H5 hy w5 e5 => ?_⟩
      obtain ⟨dl, rfl, hdl⟩ : ∃ i, y = V.int i ∧ (0 ≤ i ∧ i ≤ 2000000) := by
        have := List.mem_of_getElem? hy
        simp only [List.mem_cons, List.not_mem_nil, or_false] at this
        rcases this with h | h | h | h | h | h <;> refine ⟨_, h, ?_⟩ <;> omega
      have e15 := (e14.new (o := .lst _) hx).trans e5
      refine ⟨szL (by show 3 ≤ 1000000; decide), fun y hy => ?_⟩
      obtain ⟨_, _, _, ha5, _⟩ := id w5
      exact q y (.ring t dl) _ upd_same hdl (fun v hv => by simp [Wish.tags] at hv; exact hv ▸ htm) (e15.free ha5 hy) ((w5.new hy).mono (by omega)) (e15.new hy)
  refine ⟨_, rfl, rfl, _, rfl, ite2 (fun z => ?_) (fun z => ?_)⟩
  · refine ⟨_, rfl, _, rfl, szL (by show 3 ≤ 1000000; decide), fun x hx => ?_⟩
    obtain ⟨_, _, _, ha3, _⟩ := id w3
    exact q x (.alike t u) _ upd_same trivial (fun v hv => by simp [Wish.tags] at hv; rcases hv with rfl | rfl <;> assumption) (e13.free ha3 hx) ((w3.new hx).mono (by omega)) (e13.new hx)
  · refine ⟨_, rfl, _, rfl, szL (by show 3 ≤ 1000000; decide), fun x hx => ?_⟩
    obtain ⟨_, _, _, ha3, _⟩ := id w3
    exact q x (.ends t u) _ upd_same trivial (fun v hv => by simp [Wish.tags] at hv; rcases hv with rfl | rfl <;> assumption) (e13.free ha3 hx) ((w3.new hx).mono (by omega)) (e13.new hx)
/-! ### _law_well -/
abbrev vLWell : List Str := ["_law_script", "_law_k", "_law_cell", "_law_mixed_here", "_law_each"]
abbrev pLWell : List Str := ["_law_script", "_law_k"]
theorem scLWell : FnScope vLWell pLWell (defScope (top 56)) := ⟨rfl, rfl, rfl, by decide +kernel, rfl, by decide +kernel, by decide +kernel⟩
def spWell (K : PySem.W.Frag) : Sp := fun vs H Q _ => ∃ (a : Addr) (ns : List Int) (k : Nat), vs = [.ref a, .int k] ∧ SqL K H a (ns.map V.int) ∧ ns.length ≤ 63 ∧ k ≤ 100 ∧ ∀ (l : Addr) (H' : Hp), Same H H' → H l = none → Well H' l 0 → Q (.ref l) H'
theorem okLWell (T : TxtA K mg) : FnX P w K mg base CX0 false false 1 T.l_well.f T.l_well.fd pLWell (spWell K) := by
  refine funX0 (k := 0) T.l_well.F scLWell (fun vs H Q E ⟨a, ns, k, eq, _⟩ => eq ▸ rfl) fun cdv A outer s H vs Q E p c ⟨a, ns, k, eq, ha, hlen, hk, q⟩ => ?_
  subst eq
  refine ⟨_, pss_cons (ps_set (i := 2) scLWell.nd rfl (Or.inl rfl) (pe_ifExp (pt_cmpR op_lt (pv 1) (pe_callB call_len_seq (by rfl) T.len PySem.boot_len (pa_cons (pv 0) pa_nil)) (nomark _)) (pe_ix ix_list (pv 0) (pv 1) (fun _ _ => rfl)) pe_int))
      (pss_cons (ps_set (i := 3) scLWell.nd rfl (Or.inl rfl) (pe_op op_add pe_int (pe_op op_mul pe_int (pv 1))))
      (pss_cons (ps_for PassesOwn.never rfl (pi_list (pe_slice sl_list (pv 0) po_none (po_some pe_int))) (pg_name (i := 4) scLWell.nd rfl (Or.inl rfl)) (pss_one (ps_set (i := 3) scLWell.nd rfl (Or.inl rfl) (pe_op op_mod (pe_callTy call_int1 (by rfl) T.int (by decide +kernel) (pa_cons (pe_op op_add (pe_op op_add (pe_op op_mul (pv 3) pe_int) (pe_op op_mod (pe_callTy call_int1 (by rfl) T.int (by decide +kernel) (pa_cons (pv 4) pa_nil)) pe_int)) pe_int) pa_nil)) pe_int))))
      (pss_cons (ps_set (i := 3) scLWell.nd rfl (Or.inl rfl) (pe_op op_mod (pe_callTy call_int1 (by rfl) T.int (by decide +kernel) (pa_cons (pe_op op_add (pe_op op_add (pe_op op_mul (pv 3) pe_int) (pe_op op_mod (pe_callTy call_int1 (by rfl) T.int (by decide +kernel) (pa_cons (pv 2) pa_nil)) pe_int)) pe_int) pa_nil)) pe_int))
      (pss_one (ps_ret (pe_lst (pa_cons (pv 3) (pa_cons (pe_ifExp (pt_cmpR op_ge (pe_callB call_abs (by rfl) T.abs (by decide +kernel) (pa_cons (pv 2) pa_nil)) (pe_op op_pow pe_int pe_int) (nomark _)) (pe_callB call_abs (by rfl) T.abs (by decide +kernel) (pa_cons (pv 2) pa_nil)) pe_int) (pa_cons pe_int pa_nil))))))))), ?_⟩
  refine ⟨_, rfl, _, rfl, a, _, rfl, .inl ha, _, _, rfl, rfl, _, rfl, ?_⟩
  have hcell : ∀ x : Int, True := fun _ => trivial
  refine ite2 (fun z => ?_) (fun z => ?_)
  · have hk' : k < ns.length := by
      have := of_decide_eq_true z
      rw [List.length_map] at this
      omega
    refine ⟨_, rfl, _, rfl, a, _, _, .int ns[k], rfl, rfl, ha, atI_nat (by rw [List.getElem?_map, List.getElem?_eq_getElem hk']; rfl), ?_⟩
    generalize ns[k] = cell
    refine ⟨_, rfl, _, _, rfl, rfl, .inl ⟨by omega, by omega⟩, _, _, rfl, rfl, ?_⟩
    have hx0 : (0 : Int) ≤ 104729 + 7907 * k ∧ (104729 + 7907 * (k : Int)) < 2147483629 := by omega
    refine ⟨_, rfl, 4, rfl, a, _, rfl, ha, fun l hl => ?_⟩
    have s1 := (Same.refl H).new (o := .lst (cutV (ns.map V.int) none (some 4))) hl
    have hcut : cutV (ns.map V.int) none (some 4) = (ns.take 4).map V.int := by rw [List.map_take]; exact cutV_to (ns.map V.int) 4
    rw [hcut] at s1 ⊢
    have h1 := upd_same (H := H) (a := l) (o := .lst ((ns.take 4).map V.int))
    generalize upd H l (.lst ((ns.take 4).map V.int)) = H1 at s1 h1 ⊢
    refine ⟨l, rfl, ⟨_, SqL.of h1⟩, for_list (K := K) (a := l) (xs := (ns.take 4).map V.int) (fun i σ H' => H' = H1 ∧ ∃ (x : Int) (u : Option V), σ = [some (.ref a), some (.int k), some (.int cell), some (.int x), u] ∧ 0 ≤ x ∧ x < 2147483629) ⟨rfl, _, _, rfl, hx0.1, hx0.2⟩ (fun i σ H' _ ⟨e, _⟩ => e ▸ SqL.of h1) ?_ ?_⟩
    · rintro i y σ H' hy ⟨rfl, x, u, rfl, hx1, hx2⟩
      obtain ⟨v, rfl⟩ : ∃ v, y = V.int v := by
        obtain ⟨v, _, e⟩ := List.mem_map.mp (List.mem_of_getElem? hy)
        exact ⟨v, e.symm⟩
      refine ⟨_, rfl, _, _, rfl, rfl, .inl ⟨by omega, by omega⟩, _, rfl, .inl ⟨_, rfl, _, _, rfl, rfl, (by show (0 : Int) < 2147483587; decide), _, _, rfl, rfl, _, _, rfl, rfl, .inl ⟨_, rfl, _, _, rfl, rfl, (by show (0 : Int) < 2147483629; decide), rfl, _, _, rfl, Int.emod_nonneg _ (by decide), Int.emod_lt_of_pos _ (by decide)⟩⟩⟩
    · rintro σ H' ⟨rfl, x, u, rfl, hx1, hx2⟩
      refine ⟨_, rfl, _, _, rfl, rfl, .inl ⟨by omega, by omega⟩, _, rfl, .inl ⟨_, rfl, _, _, rfl, rfl, (by show (0 : Int) < 2147483579; decide), _, _, rfl, rfl, _, _, rfl, rfl, .inl ⟨_, rfl, _, _, rfl, rfl, (by show (0 : Int) < 2147483629; decide), ?_⟩⟩⟩
      refine ⟨_, rfl, _, rfl, _, rfl, _, _, rfl, rfl, ⟨by decide, by decide, by decide⟩, _, _, rfl, rfl, _, rfl, ite2 (fun z => ?_) (fun z => ?_)⟩
      · refine ⟨_, rfl, _, rfl, szL (by show 3 ≤ 1000000; decide), fun r hr => ?_⟩
        exact q r _ (s1.new hr) (s1.free hr) ⟨_, _, _, upd_same, Int.emod_nonneg _ (by decide), Int.emod_lt_of_pos _ (by decide), by split <;> omega, Int.le_refl _, Int.le_refl _⟩
      · refine ⟨szL (by show 3 ≤ 1000000; decide), fun r hr => ?_⟩
        exact q r _ (s1.new hr) (s1.free hr) ⟨_, _, _, upd_same, Int.emod_nonneg _ (by decide), Int.emod_lt_of_pos _ (by decide), Int.le_refl _, Int.le_refl _, Int.le_refl _⟩
  · refine ⟨_, rfl, _, _, rfl, rfl, .inl ⟨by omega, by omega⟩, _, _, rfl, rfl, ?_⟩
    have hx0 : (0 : Int) ≤ 104729 + 7907 * k ∧ (104729 + 7907 * (k : Int)) < 2147483629 := by omega
    refine ⟨_, rfl, 4, rfl, a, _, rfl, ha, fun l hl => ?_⟩
    have s1 := (Same.refl H).new (o := .lst (cutV (ns.map V.int) none (some 4))) hl
    have hcut : cutV (ns.map V.int) none (some 4) = (ns.take 4).map V.int := by rw [List.map_take]; exact cutV_to (ns.map V.int) 4
    rw [hcut] at s1 ⊢
    have h1 := upd_same (H := H) (a := l) (o := .lst ((ns.take 4).map V.int))
    generalize upd H l (.lst ((ns.take 4).map V.int)) = H1 at s1 h1 ⊢
    refine ⟨l, rfl, ⟨_, SqL.of h1⟩, for_list (K := K) (a := l) (xs := (ns.take 4).map V.int) (fun i σ H' => H' = H1 ∧ ∃ (x : Int) (u : Option V), σ = [some (.ref a), some (.int k), some (.int 0), some (.int x), u] ∧ 0 ≤ x ∧ x < 2147483629) ⟨rfl, _, _, rfl, hx0.1, hx0.2⟩ (fun i σ H' _ ⟨e, _⟩ => e ▸ SqL.of h1) ?_ ?_⟩
    · rintro i y σ H' hy ⟨rfl, x, u, rfl, hx1, hx2⟩
      obtain ⟨v, rfl⟩ : ∃ v, y = V.int v := by
        obtain ⟨v, _, e⟩ := List.mem_map.mp (List.mem_of_getElem? hy)
        exact ⟨v, e.symm⟩
      refine ⟨_, rfl, _, _, rfl, rfl, .inl ⟨by omega, by omega⟩, _, rfl, .inl ⟨_, rfl, _, _, rfl, rfl, (by show (0 : Int) < 2147483587; decide), _, _, rfl, rfl, _, _, rfl, rfl, .inl ⟨_, rfl, _, _, rfl, rfl, (by show (0 : Int) < 2147483629; decide), rfl, _, _, rfl, Int.emod_nonneg _ (by decide), Int.emod_lt_of_pos _ (by decide)⟩⟩⟩
    · rintro σ H' ⟨rfl, x, u, rfl, hx1, hx2⟩
      refine ⟨_, rfl, _, _, rfl, rfl, .inl ⟨by omega, by omega⟩, _, rfl, .inl ⟨_, rfl, _, _, rfl, rfl, (by show (0 : Int) < 2147483579; decide), _, _, rfl, rfl, _, _, rfl, rfl, .inl ⟨_, rfl, _, _, rfl, rfl, (by show (0 : Int) < 2147483629; decide), ?_⟩⟩⟩
      refine ⟨_, rfl, _, rfl, _, rfl, _, _, rfl, rfl, ⟨by decide, by decide, by decide⟩, _, _, rfl, rfl, _, rfl, ite2 (fun z => ?_) (fun z => ?_)⟩
      · refine ⟨_, rfl, _, rfl, szL (by show 3 ≤ 1000000; decide), fun r hr => ?_⟩
        exact q r _ (s1.new hr) (s1.free hr) ⟨_, _, _, upd_same, Int.emod_nonneg _ (by decide), Int.emod_lt_of_pos _ (by decide), by split <;> omega, Int.le_refl _, Int.le_refl _⟩
      · refine ⟨szL (by show 3 ≤ 1000000; decide), fun r hr => ?_⟩
        exact q r _ (s1.new hr) (s1.free hr) ⟨_, _, _, upd_same, Int.emod_nonneg _ (by decide), Int.emod_lt_of_pos _ (by decide), Int.le_refl _, Int.le_refl _, Int.le_refl _⟩
end
end Spf
end
section
set_option maxHeartbeats 4000000
/-! What is drawn: deeds. -/
namespace Spf
open PySem PySem.Spec PyProof.Rows L2 L2H HotX
theorem paired_keys {G : Hp} : ∀ {kvs : List (Key × V)} {hd : Held}, Paired (IsPutK G) kvs hd → kvs.map (·.1) = (hd.map (·.1)).map Sum.inr
  | _, _, .nil => rfl
  | _, _, .cons h r => by
    simp only [List.map_cons]
    rw [h.1, paired_keys r]
def nms : List Str := ["a", "b2", "old"]
def DeedOk (c : Snap) : Deed → Prop
  | .undo => True
  | .put t e => t ∈ nms ∧ EntOk e
  | .wish w => c.held ≠ [] ∧ c.hopes.length < 5 ∧ (∀ t ∈ w.tags, t ∈ nms ∨ t = "none") ∧ w.sane
  | .lift i => -1 ≤ i ∧ i ≤ c.hopes.length
section
variable {P : Program} {w : World} {K : PySem.W.Frag} {mg : Str → Option Value} {base : Heap}
abbrev vLDeed : List Str := ["_law_well_here", "_law_entries_here", "_law_state", "_law_kind", "_law_tag"]
abbrev pLDeed : List Str := ["_law_well_here", "_law_entries_here", "_law_state"]
theorem scLDeed : FnScope vLDeed pLDeed (defScope (top 82)) := ⟨rfl, rfl, rfl, by decide +kernel, rfl, by decide +kernel, by decide +kernel⟩
def spDeed : Sp := fun vs H Q _ => ∃ (G : Hp) (a en st : Addr) (ps : List Addr) (es : List Ent) (c : Snap) (rest : List Snap) (m : Nat), vs = [.ref a, .ref en, .ref st] ∧ Same G H ∧ G a = none ∧ G en = some (.lst (ps.map V.ref)) ∧ Paired (IsEnt G) ps es ∧ ps.length = 6 ∧ IsSt G st (c :: rest) ∧ (∀ kv ∈ c.held, kv.1 ∈ nms) ∧ c.held.length ≤ 60 ∧ c.hopes.length ≤ 100 ∧ Well H a m ∧ m + 20 ≤ 2 ^ 40 ∧
  ∀ (d : Addr) (dd : Deed) (H' G' : Hp), Grow H G H' G' → IsDeed G' d dd → DeedOk c dd → Well H' a (m + 20) → Ex a H H' → Q (.ref d) H'
theorem okLDeed (T : TxtA K mg) : FnX P w K mg base CX0 false false 6 T.l_deed.f T.l_deed.fd pLDeed spDeed := by
  refine funX0 (k := 5) T.l_deed.F scLDeed (fun vs H Q E ⟨G, a, en, st, ps, es, c, rest, m, eq, _⟩ => eq ▸ rfl) fun cdv A outer s H vs Q E p c ⟨G, a, en, st, ps, es, cc, rest, m, eq, sg, ga, gen, pe, hpl, ist, hnm, hhl, hol, hw, hm, q⟩ => ?_
  subst eq
  obtain ⟨h1, o1, o2, pp, a1, ih, ⟨qs, io, pr⟩, nm, a4, hl, last⟩ := ist
  obtain ⟨kvs, hk, hp, hnd⟩ := id ih
  have hkl : kvs.length = cc.held.length := hp.length
  refine ⟨_, pss_cons (ps_par (i := 3) (j := 4) (by rfl) scLDeed.nd rfl rfl (by decide) rfl rfl (pa_cons (pe_callX (okLDip T) (c.mono (by decide)) nogd rfl T.l_dip.mg T.l_dip.kp T.l_dip.b at00 (pa_cons (pv 0) (pa_cons pe_int pa_nil))) (pa_cons (pe_callX (okLOf T) (c.mono (by decide)) nogd rfl T.l_of.mg T.l_of.kp T.l_of.b at00 (pa_cons (pv 0) (pa_cons (pe_lst (pa_cons pe_str (pa_cons pe_str (pa_cons pe_str pa_nil)))) pa_nil))) pa_nil)) (by rfl))
      (pss_cons (ps_if (PW.pt (pw_or (pt_cmpR op_lt (pv 3) pe_int (nomark _)) (pw_or1 (PW.pt (pw_and (pt_cmpR (op_eqE c.u0) (pe_ix ix_list (pv 2) pe_int (fun _ _ => rfl)) pe_dnewK (nomark _)) (pw_and1 (pt_cmpR op_lt (pv 3) pe_int (nomark _)))))))) (pss_one (ps_ret (pe_lst (pa_cons pe_str (pa_cons (pv 4) (pa_cons (pe_callX (okLOf T) (c.mono (by decide)) nogd rfl T.l_of.mg T.l_of.kp T.l_of.b at00 (pa_cons (pv 0) (pa_cons (pv 1) pa_nil))) pa_nil)))))) pss_nil)
      (pss_cons (ps_if (PW.pt (pw_and (pt_cmpR op_lt (pv 3) pe_int (nomark _)) (pw_and1 (pt_cmpR op_lt (pe_callB call_len_seq (by rfl) T.len PySem.boot_len (pa_cons (pe_ix ix_list (pv 2) pe_int (fun _ _ => rfl)) pa_nil)) pe_int (nomark _))))) (pss_one (ps_ret (pe_lst (pa_cons pe_str (pa_cons (pe_callX (okLHope T) (c.mono (by decide)) nogd rfl T.l_hope.mg T.l_hope.kp T.l_hope.b at00 (pa_cons (pv 0) (pa_cons (pe_ix ix_list (pv 2) pe_int (fun _ _ => rfl)) (pa_cons (pe_op op_cat (pe_op op_rep (pe_callB (call_sortedD rfl) (by rfl) T.sorted (by decide +kernel) (pa_cons (pe_ix ix_list (pv 2) pe_int (fun _ _ => rfl)) pa_nil)) pe_int) (pe_lst (pa_cons pe_str pa_nil))) pa_nil)))) pa_nil))))) pss_nil)
      (pss_one (ps_ret (pe_ifExp (pt_cmpR op_eq (pv 3) pe_int (nomark _)) (pe_lst (pa_cons pe_str (pa_cons (pe_op op_sub (pe_callX (okLDip T) (c.mono (by decide)) nogd rfl T.l_dip.mg T.l_dip.kp T.l_dip.b at00 (pa_cons (pv 0) (pa_cons (pe_op op_add (pe_callB call_len_seq (by rfl) T.len PySem.boot_len (pa_cons (pe_ix ix_list (pv 2) pe_int (fun _ _ => rfl)) pa_nil)) pe_int) pa_nil))) pe_int) pa_nil))) (pe_lst (pa_cons pe_str pa_nil))))))), ?_⟩
  have gw := fun (H' : Hp) (e : Ex a H H') => Ex.ghost sg ga e
  have nn : ∀ x y, G x = some y → x ≠ a := fun x y h => by
    rintro rfl
    rw [ga] at h
    cases h
  refine ⟨_, rfl, a, _, m, rfl, hw, by omega, by decide, by decide, fun kd H1 hkd w1 e1 => ?_⟩
  refine ⟨_, rfl, szL (by show 3 ≤ 1000000; decide), fun x hx => ?_⟩
  refine ⟨a, x, _, m + 1, rfl, w1.new hx, by omega, SqL.of upd_same, w1.ne hx, by show 0 < 3; decide, by show 3 < 2 ^ 30; decide, fun j y H2 hy w2 e2 => ?_⟩
  obtain ⟨t, rfl, htn⟩ : ∃ t, y = V.str t ∧ t ∈ nms := by
    have := List.mem_of_getElem? hy
    simp only [List.mem_cons, List.not_mem_nil, or_false] at this
    rcases this with h | h | h
    · exact ⟨_, h, by simp [nms]⟩
    · exact ⟨_, h, by simp [nms]⟩
    · exact ⟨_, h, by simp [nms]⟩
  have e12 := (e1.new (o := .lst [.str "a", .str "b2", .str "old"]) hx).trans e2
  have s2 := gw _ e12
  refine ⟨_, _, rfl, ?_⟩
  refine ⟨_, rfl, _, _, rfl, rfl, _, rfl, ite2 (fun z => ?_) (fun z => ?_)⟩
  · refine ifT rfl ?_
    have w3 := w2
    have e13 := e12
    have s3 := s2
    generalize H2 = H3 at w3 e13 s3 ⊢
    refine ⟨_, rfl, _, rfl, _, rfl, a, en, _, m + 2, rfl, w3, by omega, SqL.of (s3 _ _ gen), nn _ _ gen, by rw [List.length_map]; omega, by rw [List.length_map]; omega, fun j y H4 hy w4 e4 => ⟨szL (by show 3 ≤ 1000000; decide), fun d hd => ?_⟩⟩
    obtain ⟨pj, hpj, rfl⟩ : ∃ pj, ps[j]? = some pj ∧ y = V.ref pj := by
      rw [List.getElem?_map] at hy
      cases h : ps[j]? with
      | none => rw [h] at hy; cases hy
      | some pj => rw [h] at hy; cases hy; exact ⟨pj, rfl, rfl⟩
    obtain ⟨ej, _, hej⟩ := Paired.at' pe j pj hpj
    have e14 := e13.trans e4
    obtain ⟨_, _, _, ha4, _⟩ := id w4
    have d0 := e14.free ha4 hd
    have e15 := e14.new (o := .lst [.str "put", .str t, .ref pj]) hd
    have gr : Grow H G (upd H4 d (.lst [.str "put", .str t, .ref pj])) (upd G d (.lst [.str "put", .str t, .ref pj])) := (Grow.mk (Same.refl G) (fun x h h' => absurd h h') (gw _ e15)).add d0 (sg.free d0) upd_same
    exact q d (.put t ej) _ _ gr ⟨pj, upd_same, hej.mono gr.same⟩ ⟨htn, hej.2⟩ ((w4.new hd).mono (by omega)) e15
  refine ⟨_, rfl, st, _, _, _, rfl, rfl, SqL.of (s2 _ _ a1), rfl, fun em hem => ?_⟩
  have s3 := s2.new (o := .dK []) hem
  have w3 := w2.new (o := .dK []) hem
  have e13 := e12.new (o := .dK []) hem
  refine ⟨h1, em, kvs, rfl, rfl, .inl (s3 _ _ hk), upd_same, _, rfl, ?_⟩
  generalize upd H2 em (.dK []) = H3 at s3 w3 e13 ⊢
  by_cases hke : kvs.isEmpty = true
  · refine ifT hke ?_
    refine ⟨_, rfl, _, _, rfl, rfl, _, rfl, ite2 (fun z2 => ?_) (fun z2 => ?_)⟩
    · skip
      refine ⟨_, rfl, _, rfl, _, rfl, a, en, _, m + 2, rfl, w3, by omega, SqL.of (s3 _ _ gen), nn _ _ gen, by rw [List.length_map]; omega, by rw [List.length_map]; omega, fun j y H4 hy w4 e4 => ⟨szL (by show 3 ≤ 1000000; decide), fun d hd => ?_⟩⟩
      obtain ⟨pj, hpj, rfl⟩ : ∃ pj, ps[j]? = some pj ∧ y = V.ref pj := by
        rw [List.getElem?_map] at hy
        cases h : ps[j]? with
        | none => rw [h] at hy; cases hy
        | some pj => rw [h] at hy; cases hy; exact ⟨pj, rfl, rfl⟩
      obtain ⟨ej, _, hej⟩ := Paired.at' pe j pj hpj
      have e14 := e13.trans e4
      obtain ⟨_, _, _, ha4, _⟩ := id w4
      have d0 := e14.free ha4 hd
      have e15 := e14.new (o := .lst [.str "put", .str t, .ref pj]) hd
      have gr : Grow H G (upd H4 d (.lst [.str "put", .str t, .ref pj])) (upd G d (.lst [.str "put", .str t, .ref pj])) := (Grow.mk (Same.refl G) (fun x h h' => absurd h h') (gw _ e15)).add d0 (sg.free d0) upd_same
      exact q d (.put t ej) _ _ gr ⟨pj, upd_same, hej.mono gr.same⟩ ⟨htn, hej.2⟩ ((w4.new hd).mono (by omega)) e15
    · have hk10 : ¬ (kd : Int) < 10 := of_decide_eq_false (by simpa using z2)
      refine ⟨_, rfl, _, _, rfl, rfl, _, rfl, ifF (decide_eq_false (by omega)) ?_⟩
      refine ifF rfl ?_
      refine ⟨_, rfl, rfl, _, rfl, ifF (decide_eq_false (fun z => by have := V.int.inj z; omega)) ?_⟩
      refine ⟨szL (by show 1 ≤ 1000000; decide), fun d hd => ?_⟩
      obtain ⟨_, _, _, ha3, _⟩ := id w3
      have d0 := e13.free ha3 hd
      have e15 := e13.new (o := .lst [.str "undo"]) hd
      have gr : Grow H G (upd H3 d (.lst [.str "undo"])) (upd G d (.lst [.str "undo"])) := (Grow.mk (Same.refl G) (fun x h h' => absurd h h') (gw _ e15)).add d0 (sg.free d0) upd_same
      exact q d .undo _ _ gr upd_same trivial ((w3.new hd).mono (by omega)) e15
  · have hke' : kvs.isEmpty = false := by simpa using hke
    have hne : cc.held ≠ [] := fun z => by
      rw [z] at hkl
      have : kvs = [] := List.length_eq_zero_iff.mp hkl
      subst this
      simp at hke
    refine ifF hke' ?_
    refine ifF rfl ?_
    refine ⟨_, rfl, _, _, rfl, rfl, _, rfl, ite2 (fun z2 => ?_) (fun z2 => ?_)⟩
    · refine ⟨_, rfl, st, _, _, _, rfl, rfl, SqL.of (s3 _ _ a1), rfl, o1, _, rfl, .inl (SqL.of (s3 _ _ io)), _, _, rfl, rfl, _, rfl, ite2 (fun z3 => ?_) (fun z3 => ?_)⟩
      · skip
        refine ⟨_, rfl, _, rfl, st, _, _, _, rfl, rfl, SqL.of (s3 _ _ a1), rfl, _, rfl, st, _, _, _, rfl, rfl, SqL.of (s3 _ _ a1), rfl, h1, kvs, cc.held.map (·.1), rfl, .inl (s3 _ _ hk), ?_, by rw [List.length_map]; omega, fun ys y1 hperm _ hy1 => ?_⟩
        · exact paired_keys hp
        have t1 := (Same.refl H3).new (o := .lst (ys.map V.str)) hy1
        have hyl : ys.length ≤ 60 := by rw [hperm.length_eq, List.length_map]; exact hhl
        refine ⟨y1, _, _, rfl, rfl, upd_same, by decide, by decide, by rw [List.length_map]; exact szL (by show ys.length * 2 ≤ 1000000; omega), fun y2 hy2 => ?_⟩
        have t2 := t1.new (o := .lst (List.replicate (2 : Int).toNat (ys.map V.str)).flatten) hy2
        refine ⟨szL (by show 1 ≤ 1000000; decide), fun y3 hy3 => ?_⟩
        have n23 : y2 ≠ y3 := ne_of_none upd_same hy3
        have t3 := t2.new (o := .lst [.str "none"]) hy3
        have hrep : (List.replicate (2 : Int).toNat (ys.map V.str)).flatten = (ys ++ ys).map V.str := by
          show (List.replicate 2 (ys.map V.str)).flatten = _
          simp [List.replicate]
        refine ⟨y2, y3, _, _, rfl, rfl, by rw [upd_ne n23, upd_same], upd_same, by rw [hrep]; exact szL (by simp; omega), fun y4 hy4 => ?_⟩
        have t4 := t3.new (o := .lst ((List.replicate (2 : Int).toNat (ys.map V.str)).flatten ++ [.str "none"])) hy4
        have h4 := upd_same (H := upd (upd (upd H3 y1 (.lst (ys.map V.str))) y2 (.lst (List.replicate (2 : Int).toNat (ys.map V.str)).flatten)) y3 (.lst [.str "none"])) (a := y4) (o := .lst ((List.replicate (2 : Int).toNat (ys.map V.str)).flatten ++ [.str "none"]))
        have w4 := w3.same t4
        have e14 := e13.trans (Ex.of_same t4)
        generalize upd (upd (upd (upd H3 y1 (.lst (ys.map V.str))) y2 (.lst (List.replicate (2 : Int).toNat (ys.map V.str)).flatten)) y3 (.lst [.str "none"])) y4 (.lst ((List.replicate (2 : Int).toNat (ys.map V.str)).flatten ++ [.str "none"])) = H4 at h4 w4 e14 ⊢
        rw [hrep] at h4
        refine ⟨G, a, h1, y4, cc.held, ys ++ ys ++ [("none" : Str)], m + 2, rfl, gw _ e14, ga, ih, by rw [h4, List.map_append (l₂ := [_])]; rfl, by rw [List.length_append]; exact Nat.succ_pos _, by simp only [List.length_append, List.length_singleton]; omega, w4, by omega, fun pw w H5 h5 hsane htags hp0 w5 e5 => ⟨szL (by show 2 ≤ 1000000; decide), fun d hd => ?_⟩⟩
        have e15 := e14.trans e5
        obtain ⟨_, _, _, ha5, _⟩ := id w5
        obtain ⟨_, _, _, ha4, _⟩ := id w4
        have d0 := e15.free ha5 hd
        have pw0 := e14.free ha4 hp0
        have npd : pw ≠ d := ne_of_none h5 hd
        have e16 := e15.new (o := .lst [.str "wish", .ref pw]) hd
        have gr1 : Grow H G (upd H5 d (.lst [.str "wish", .ref pw])) (upd G pw (.tup (wishV w))) := (Grow.mk (Same.refl G) (fun x h h' => absurd h h') (gw _ e16)).add pw0 (sg.free pw0) (by rw [upd_ne npd]; exact h5)
        have gd : upd G pw (.tup (wishV w)) d = none := by rw [upd_ne npd.symm]; exact sg.free d0
        have gr := gr1.add d0 gd (upd_same (o := .lst [.str "wish", .ref pw]))
        refine q d (.wish w) _ _ gr ⟨pw, upd_same, by rw [upd_ne npd, upd_same], hsane⟩ ⟨hne, by have := of_decide_eq_true z3; rw [List.length_map, pr.length] at this; omega , fun v hv => ?_, hsane⟩ ((w5.new hd).mono (by omega)) e16
        have := htags v hv
        simp only [List.mem_append, List.mem_singleton, or_self] at this
        rcases this with h | h
        · obtain ⟨kv, hkv, rfl⟩ := List.mem_map.mp (hperm.mem_iff.mp h)
          exact .inl (hnm kv hkv)
        · exact .inr h
      · skip
        refine ⟨_, rfl, rfl, _, rfl, ite2 (fun z4 => ?_) (fun z4 => ?_)⟩
        · refine ⟨_, rfl, _, rfl, st, _, _, _, rfl, rfl, SqL.of (s3 _ _ a1), rfl, o1, _, rfl, .inl (SqL.of (s3 _ _ io)), _, _, rfl, rfl, a, _, m + 2, rfl, w3, by omega, by omega, by rw [List.length_map, pr.length]; omega, fun i H4 hi w4 e4 => ⟨_, _, rfl, rfl, szL (by show 2 ≤ 1000000; decide), fun d hd => ?_⟩⟩
          rw [List.length_map, pr.length] at hi
          have e14 := e13.trans e4
          obtain ⟨_, _, _, ha4, _⟩ := id w4
          have d0 := e14.free ha4 hd
          have e15 := e14.new (o := .lst [.str "lift", .int ((i : Int) - 1)]) hd
          have gr : Grow H G (upd H4 d (.lst [.str "lift", .int ((i : Int) - 1)])) (upd G d (.lst [.str "lift", .int ((i : Int) - 1)])) := (Grow.mk (Same.refl G) (fun x h h' => absurd h h') (gw _ e15)).add d0 (sg.free d0) upd_same
          exact q d (.lift ((i : Int) - 1)) _ _ gr upd_same ⟨by omega, by omega⟩ ((w4.new hd).mono (by omega)) e15
        · refine ⟨szL (by show 1 ≤ 1000000; decide), fun d hd => ?_⟩
          obtain ⟨_, _, _, ha3, _⟩ := id w3
          have d0 := e13.free ha3 hd
          have e15 := e13.new (o := .lst [.str "undo"]) hd
          have gr : Grow H G (upd H3 d (.lst [.str "undo"])) (upd G d (.lst [.str "undo"])) := (Grow.mk (Same.refl G) (fun x h h' => absurd h h') (gw _ e15)).add d0 (sg.free d0) upd_same
          exact q d .undo _ _ gr upd_same trivial ((w3.new hd).mono (by omega)) e15
    · refine ifF rfl ?_
      refine ⟨_, rfl, rfl, _, rfl, ite2 (fun z4 => ?_) (fun z4 => ?_)⟩
      · refine ⟨_, rfl, _, rfl, st, _, _, _, rfl, rfl, SqL.of (s3 _ _ a1), rfl, o1, _, rfl, .inl (SqL.of (s3 _ _ io)), _, _, rfl, rfl, a, _, m + 2, rfl, w3, by omega, by omega, by rw [List.length_map, pr.length]; omega, fun i H4 hi w4 e4 => ⟨_, _, rfl, rfl, szL (by show 2 ≤ 1000000; decide), fun d hd => ?_⟩⟩
        rw [List.length_map, pr.length] at hi
        have e14 := e13.trans e4
        obtain ⟨_, _, _, ha4, _⟩ := id w4
        have d0 := e14.free ha4 hd
        have e15 := e14.new (o := .lst [.str "lift", .int ((i : Int) - 1)]) hd
        have gr : Grow H G (upd H4 d (.lst [.str "lift", .int ((i : Int) - 1)])) (upd G d (.lst [.str "lift", .int ((i : Int) - 1)])) := (Grow.mk (Same.refl G) (fun x h h' => absurd h h') (gw _ e15)).add d0 (sg.free d0) upd_same
        exact q d (.lift ((i : Int) - 1)) _ _ gr upd_same ⟨by omega, by omega⟩ ((w4.new hd).mono (by omega)) e15
      · refine ⟨szL (by show 1 ≤ 1000000; decide), fun d hd => ?_⟩
        obtain ⟨_, _, _, ha3, _⟩ := id w3
        have d0 := e13.free ha3 hd
        have e15 := e13.new (o := .lst [.str "undo"]) hd
        have gr : Grow H G (upd H3 d (.lst [.str "undo"])) (upd G d (.lst [.str "undo"])) := (Grow.mk (Same.refl G) (fun x h h' => absurd h h') (gw _ e15)).add d0 (sg.free d0) upd_same
        exact q d .undo _ _ gr upd_same trivial ((w3.new hd).mono (by omega)) e15
end
end Spf
end
section
set_option maxHeartbeats 4000000
/-! The program: whole numbers, powers, fields; in both modes. -/
namespace Spf
open PySem PySem.Spec PyProof.Rows L2 L2H HotX
section
variable {P : Program} {w : World} {K : PySem.W.Frag} {mg : Str → Option Value} {base : Heap} {h : Bool}
/-! ### is_integer, is_within -/
abbrev vIsInteger : List Str := ["value"]
abbrev pIsInteger : List Str := ["value"]
theorem scIsInteger : FnScope vIsInteger pIsInteger (defScope (top 22)) := ⟨rfl, rfl, rfl, by decide +kernel, rfl, by decide +kernel, by decide +kernel⟩
def spIsInt : Sp := fun vs H Q _ => (∃ i, vs = [.int i] ∧ Q (.bl true) H) ∨ ∃ x, vs = [.str x] ∧ Q (.bl false) H
theorem okIsInteger (T : TxtA K mg) : FnX P w K mg base CX0 false h 1 T.is_integer.f T.is_integer.fd pIsInteger spIsInt := by
  refine funX0 (k := 0) T.is_integer.F scIsInteger (fun vs H Q E e => ?_) fun cdv A outer s H vs Q E p c e => ?_
  · rcases e with ⟨i, e, _⟩ | ⟨x, e, _⟩ <;> exact e ▸ rfl
  refine ⟨_, pss_one (ps_ret (pe_and (pe_callB call_isi (by rfl) T.isinstance (by decide +kernel) (pa_cons (pv 0) (pa_cons (pe_tyB "int" (by rfl) T.int (by decide +kernel)) pa_nil))) (pe_one (pe_not (pe_callB call_isi (by rfl) T.isinstance (by decide +kernel) (pa_cons (pv 0) (pa_cons (pe_tyB "bool" (by rfl) T.bool (by decide +kernel)) pa_nil))))))), ?_⟩
  rcases e with ⟨i, rfl, q⟩ | ⟨x, rfl, q⟩
  · refine ⟨_, rfl, .int i, .ty "int", .type "int", .type "int", true, rfl, .ty _, .base (.int i), kit_ty (by decide +kernel), _, rfl, ifT rfl ?_⟩
    exact ⟨_, rfl, .int i, .ty "bool", .type "int", .type "bool", false, rfl, .ty _, .base (.int i), kit_ty (by decide +kernel), _, rfl, q⟩
  · exact ⟨_, rfl, .str x, .ty "int", .type "str", .type "int", false, rfl, .ty _, .base (.str x), kit_ty (by decide +kernel), _, rfl, ifF rfl q⟩
abbrev vIsWithin : List Str := ["value", "least", "most"]
abbrev pIsWithin : List Str := ["value", "least", "most"]
theorem scIsWithin : FnScope vIsWithin pIsWithin (defScope (top 23)) := ⟨rfl, rfl, rfl, by decide +kernel, rfl, by decide +kernel, by decide +kernel⟩
def spIsWithin : Sp := fun vs H Q _ => ∃ v l m : Int, vs = [.int v, .int l, .int m] ∧ Q (.bl (decide (l ≤ v ∧ v ≤ m))) H
theorem okIsWithin (T : TxtA K mg) : FnX P w K mg base CX0 false h 2 T.is_within.f T.is_within.fd pIsWithin spIsWithin := by
  refine funX0 (k := 1) T.is_within.F scIsWithin (fun vs H Q E ⟨v, l, m, e, _⟩ => e ▸ rfl) fun cdv A outer s H vs Q E p c ⟨v, l, m, e, q⟩ => ?_
  subst e
  refine ⟨_, pss_one (ps_ret (pe_and (pe_callX (okIsInteger T) (c.mono (by decide)) nogd rfl T.is_integer.mg T.is_integer.kp T.is_integer.b at00 (pa_cons (pv 0) pa_nil)) (pe_one (pe_chain op_le op_le (pv 1) (pv 0) (pv 2))))), ?_⟩
  refine ⟨_, rfl, .inl ⟨v, rfl, _, rfl, ifT rfl ?_⟩⟩
  refine ⟨_, rfl, _, rfl, _, _, rfl, rfl, _, rfl, ?_⟩
  refine ite2 (fun z => ?_) (fun z => ?_)
  · have hz := of_decide_eq_true z
    refine ⟨_, rfl, _, _, rfl, rfl, ?_⟩
    have : decide (l ≤ v ∧ v ≤ m) = decide (v ≤ m) := by simp [hz]
    rw [this] at q
    exact q
  · have hz : ¬ l ≤ v := of_decide_eq_false (by simpa using z)
    have : decide (l ≤ v ∧ v ≤ m) = false := by simp [hz]
    rw [this] at q
    exact q
/-! ### powers_of -/
abbrev vPowersOf : List Str := ["base", "many", "found", "at"]
abbrev pPowersOf : List Str := ["base", "many"]
theorem scPowersOf : FnScope vPowersOf pPowersOf (defScope (top 29)) := ⟨rfl, rfl, rfl, by decide +kernel, rfl, by decide +kernel, by decide +kernel⟩
def pows (b n : Nat) : List V := (List.range (n + 1)).map fun i => V.int (b ^ i : Nat)
theorem pows_succ (b n : Nat) : pows b (n + 1) = pows b n ++ [V.int (b ^ (n + 1) : Nat)] := by simp [pows, List.range_succ]
theorem pows_last (b n : Nat) : atI (pows b n) (-1) = some (V.int (b ^ n : Nat)) := by
  cases n with
  | zero => rfl
  | succ n => rw [pows_succ]; exact atI_last _ _
theorem pows_len (b n : Nat) : (pows b n).length = n + 1 := by simp [pows]
def spPowers : Sp := fun vs H Q _ => ∃ b n : Nat, vs = [.int b, .int n] ∧ b ≤ 12 ∧ n ≤ 6 ∧ ∀ (l : Addr) (H' : Hp), Same H H' → H' l = some (.lst (pows b n)) → H l = none → Q (.ref l) H'
theorem okPowersOf (T : TxtA K mg) : FnX P w K mg base CX0 false h 1 T.powers_of.f T.powers_of.fd pPowersOf spPowers := by
  refine funX0 (k := 0) T.powers_of.F scPowersOf (fun vs H Q E ⟨b, n, e, _⟩ => e ▸ rfl) fun cdv A outer s H vs Q E p c ⟨b, n, e, hb, hn, q⟩ => ?_
  subst e
  refine ⟨_, pss_cons (ps_set (i := 2) scPowersOf.nd rfl (Or.inl rfl) (pe_lst (pa_cons pe_int pa_nil)))
      (pss_cons (ps_forX PassesOwn.never c.md (pi_range1X rfl T.range (pa_cons (pv 1) pa_nil)) (pg_name (i := 3) scPowersOf.nd rfl (Or.inl rfl)) (pss_one (ps_expr (pe_bm PySem.F.plainAttrs_list PySem.F.slot_list_append PySem.F.type_list_append mt_append (pv 2) (pa_cons (pe_op op_mul (pe_ix ix_list (pv 2) (pe_un un_neg pe_int) (fun _ _ => rfl)) (pv 0)) pa_nil)))))
      (pss_one (ps_ret (pv 2)))), ?_⟩
  refine ⟨szL (by show 1 ≤ 1000000; decide), fun l hl => ?_⟩
  refine ⟨_, rfl, n, rfl, by omega, by omega, for_range (n := (n : Int).toNat) (fun i σ H' => Same H H' ∧ H' l = some (.lst (pows b i)) ∧ ∃ u, σ = [some (.int b), some (.int n), some (.ref l), u]) ⟨(Same.refl _).new hl, upd_same, _, rfl⟩ ?_ ?_⟩
  · rintro i σ H' hi ⟨s1, h1, u, rfl⟩
    refine ⟨_, rfl, .inl ⟨rfl, _, SqL.of h1⟩, _, rfl, 1, rfl, l, _, -1, _, rfl, rfl, SqL.of h1, pows_last b i, _, rfl, _, _, rfl, rfl, .inr ⟨by omega, by omega⟩, l, _, _, rfl, rfl, h1, by rw [pows_len]; exact szLt (by omega), fun a o ha => ?_, ?_, _, rfl⟩
    · rw [upd_ne (ne_of_none ha hl)]
      exact s1 _ _ ha
    · rw [upd_same, pows_succ, Nat.pow_succ, Int.natCast_mul]
  · rintro σ H' ⟨s1, h1, u, rfl⟩
    rw [Int.toNat_natCast] at h1
    exact ⟨_, rfl, q l H' s1 h1 hl⟩
/-! ### Field -/
theorem rw1 : ¬ (("width" : Str) = "root") := by decide +kernel
theorem rm1 : ¬ (("many" : Str) = "root") := by decide +kernel
theorem wm1 : ¬ (("many" : Str) = "width") := by decide +kernel
theorem rw2 : ¬ (("root" : Str) = "width") := by decide +kernel
theorem rm2 : ¬ (("root" : Str) = "many") := by decide +kernel
theorem wm2 : ¬ (("width" : Str) = "many") := by decide +kernel
def fldF (b n : Nat) : List (Str × V) := putF "many" (.int (b ^ n : Nat)) (putF "width" (.int n) (putF "root" (.int b) []))
theorem fldF_root (b n : Nat) : (fldF b n).lookup ("root" : Str) = some (V.int b) := by
  unfold fldF
  rw [lookup_putF, if_neg rm2, lookup_putF, if_neg rw2, lookup_putF, if_pos rfl]
theorem fldF_width (b n : Nat) : (fldF b n).lookup ("width" : Str) = some (V.int n) := by
  unfold fldF
  rw [lookup_putF, if_neg wm2, lookup_putF, if_pos rfl]
/-- a field stands at f -/
def IsFld (C : Addr) (H : Hp) (f : Addr) (b n : Nat) : Prop := ∃ dx, H f = some (.ins C dx (fldF b n))
theorem putF_len (f : Str) (v : V) : ∀ fs : List (Str × V), (putF f v fs).length ≤ fs.length + 1
  | [] => Nat.le_refl _
  | (g, x) :: r => by
    unfold putF
    split
    · simp
    · simp only [List.length_cons]
      have := putF_len f v r
      omega
abbrev vFieldInit : List Str := ["self", "base", "places"]
abbrev pFieldInit : List Str := ["self", "base", "places"]
theorem scFieldInit : FnScope vFieldInit pFieldInit (defScope (inClass (top 31) 0)) := ⟨rfl, rfl, rfl, by decide +kernel, rfl, by decide +kernel, by decide +kernel⟩
def spFieldInit (C : Addr) : Sp := fun vs H Q _ => ∃ (f dx : Addr) (b n : Nat), vs = [.ref f, .int b, .int n] ∧ Fld b n ∧ H f = some (.ins C dx []) ∧ ∀ H' : Hp, (∀ a o, a ≠ f → H a = some o → H' a = some o) → H' f = some (.ins C dx (fldF b n)) → Q .non H'
theorem okFieldInit (T : TxtA K mg) : FnX P w K mg base CX0 false h 3 T.fInit.f T.fInit.fd pFieldInit (spFieldInit T.Field.C) := by
  refine funX0 (k := 2) T.fInit.F scFieldInit (fun vs H Q E ⟨f, dx, b, n, e, _⟩ => e ▸ rfl) fun cdv A outer s H vs Q E p c ⟨f, dx, b, n, e, F, hf, q⟩ => ?_
  subst e
  have b2 := F.b2
  have b12 := F.b12
  have n1 := F.n1
  have n6 := F.n6
  refine ⟨_, pss_cons (ps_if (pt_not (pt_val (pe_callX (okIsWithin T) (c.mono (by decide)) nogd rfl T.is_within.mg T.is_within.kp T.is_within.b at00 (pa_cons (pv 1) (pa_cons (pe_glob (v := .int 2) rfl T.LEAST_BASE ⟨_, rfl⟩) (pa_cons (pe_glob (v := .int 12) rfl T.MOST_BASE ⟨_, rfl⟩) pa_nil)))))) (pss_one ps_never) pss_nil)
      (pss_cons (ps_if (pt_not (pt_val (pe_callX (okIsWithin T) (c.mono (by decide)) nogd rfl T.is_within.mg T.is_within.kp T.is_within.b at00 (pa_cons (pv 2) (pa_cons pe_int (pa_cons (pe_glob (v := .int 6) rfl T.MOST_PLACES ⟨_, rfl⟩) pa_nil)))))) (pss_one ps_never) pss_nil)
      (pss_cons (ps_fld (pv 0) (pv 1) rfl)
      (pss_cons (ps_fld (pv 0) (pv 2) rfl)
      (pss_one (ps_fld (pv 0) (pe_ix ix_list (pe_callX (okPowersOf T) (c.mono (by decide)) nogd rfl T.powers_of.mg T.powers_of.kp T.powers_of.b at00 (pa_cons (pv 1) (pa_cons (pv 2) pa_nil))) (pe_un un_neg pe_int) (fun _ _ => rfl)) rfl))))), ?_⟩
  refine ⟨_, rfl, _, _, _, rfl, _, rfl, ifF (by simp; omega) ?_⟩
  refine ⟨_, rfl, _, _, _, rfl, _, rfl, ifF (by simp; omega) ?_⟩
  refine ⟨_, rfl, _, rfl, f, T.Field.C, dx, [], rfl, hf, T.Field.cl, T.noRoot, by show 0 < 1000; decide, ?_⟩
  refine ⟨_, rfl, _, rfl, f, T.Field.C, dx, _, rfl, upd_same, T.Field.cl, T.noWidth, by show 1 < 1000; decide, ?_⟩
  refine ⟨_, rfl, _, rfl, b, n, rfl, b12, n6, fun l H' s' hl h0 => ?_⟩
  refine ⟨1, rfl, l, _, -1, _, rfl, rfl, SqL.of hl, pows_last b n, _, rfl, f, T.Field.C, dx, _, rfl, s' _ _ upd_same, T.Field.cl, T.noMany, ?_, ?_⟩
  · have h1 := putF_len "width" (.int n) (putF "root" (.int b) [])
    have h2 := putF_len "root" (.int b) []
    simp only [List.length_nil] at h2
    omega
  · refine q _ (fun a o hn ha => ?_) upd_same
    rw [upd_ne hn]
    refine s' _ _ ?_
    rw [upd_ne hn, upd_ne hn]
    exact ha
abbrev vFieldBase : List Str := ["self"]
abbrev pFieldBase : List Str := ["self"]
theorem scFieldBase : FnScope vFieldBase pFieldBase (defScope (inClass (top 31) 2)) := ⟨rfl, rfl, rfl, by decide +kernel, rfl, by decide +kernel, by decide +kernel⟩
def spFieldBase (C : Addr) : Sp := fun vs H Q _ => ∃ (f : Addr) (b n : Nat), vs = [.ref f] ∧ IsFld C H f b n ∧ Q (.int b) H
theorem okFieldBase (T : TxtA K mg) : FnX P w K mg base CX0 false h 1 T.fBase.f T.fBase.fd pFieldBase (spFieldBase T.Field.C) := by
  refine funX0 (k := 0) T.fBase.F scFieldBase (fun vs H Q E ⟨f, b, n, e, _⟩ => e ▸ rfl) fun cdv A outer s H vs Q E p c ⟨f, b, n, e, ⟨dx, hf⟩, q⟩ => ?_
  subst e
  refine ⟨_, pss_one (ps_ret (pe_fld (pv 0) rfl)), ?_⟩
  exact ⟨_, rfl, f, T.Field.C, dx, _, _, rfl, hf, T.Field.cl, T.noRoot, fldF_root b n, q⟩
abbrev vFieldPlaces : List Str := ["self"]
abbrev pFieldPlaces : List Str := ["self"]
theorem scFieldPlaces : FnScope vFieldPlaces pFieldPlaces (defScope (inClass (top 31) 3)) := ⟨rfl, rfl, rfl, by decide +kernel, rfl, by decide +kernel, by decide +kernel⟩
def spFieldPlaces (C : Addr) : Sp := fun vs H Q _ => ∃ (f : Addr) (b n : Nat), vs = [.ref f] ∧ IsFld C H f b n ∧ Q (.int n) H
theorem okFieldPlaces (T : TxtA K mg) : FnX P w K mg base CX0 false h 1 T.fPlaces.f T.fPlaces.fd pFieldPlaces (spFieldPlaces T.Field.C) := by
  refine funX0 (k := 0) T.fPlaces.F scFieldPlaces (fun vs H Q E ⟨f, b, n, e, _⟩ => e ▸ rfl) fun cdv A outer s H vs Q E p c ⟨f, b, n, e, ⟨dx, hf⟩, q⟩ => ?_
  subst e
  refine ⟨_, pss_one (ps_ret (pe_fld (pv 0) rfl)), ?_⟩
  exact ⟨_, rfl, f, T.Field.C, dx, _, _, rfl, hf, T.Field.cl, T.noWidth, fldF_width b n, q⟩
abbrev vFieldFigures : List Str := ["self"]
abbrev pFieldFigures : List Str := ["self"]
theorem scFieldFigures : FnScope vFieldFigures pFieldFigures (defScope (inClass (top 31) 4)) := ⟨rfl, rfl, rfl, by decide +kernel, rfl, by decide +kernel, by decide +kernel⟩
def figs (b : Nat) : Str := cutS "0123456789ab" none (some (b : Int))
def spFieldFigures (C : Addr) : Sp := fun vs H Q _ => ∃ (f : Addr) (b n : Nat), vs = [.ref f] ∧ IsFld C H f b n ∧ Q (.str (figs b)) H
theorem okFieldFigures (T : TxtA K mg) : FnX P w K mg base CX0 false h 1 T.fFigures.f T.fFigures.fd pFieldFigures (spFieldFigures T.Field.C) := by
  refine funX0 (k := 0) T.fFigures.F scFieldFigures (fun vs H Q E ⟨f, b, n, e, _⟩ => e ▸ rfl) fun cdv A outer s H vs Q E p c ⟨f, b, n, e, ⟨dx, hf⟩, q⟩ => ?_
  subst e
  refine ⟨_, pss_one (ps_ret (pe_slice sl_str (pe_glob (v := .str "0123456789ab") rfl T.SIGNS ⟨_, rfl⟩) po_none (po_some (pe_fld (pv 0) rfl)))), ?_⟩
  exact ⟨_, rfl, f, T.Field.C, dx, _, _, rfl, hf, T.Field.cl, T.noRoot, fldF_root b n, _, rfl, _, rfl, by rw [sizeLine_eq]; decide +kernel, q⟩
abbrev vFieldEq : List Str := ["self", "other"]
abbrev pFieldEq : List Str := ["self", "other"]
theorem scFieldEq : FnScope vFieldEq pFieldEq (defScope (inClass (top 31) 7)) := ⟨rfl, rfl, rfl, by decide +kernel, rfl, by decide +kernel, by decide +kernel⟩
def spFieldEq (C : Addr) : Sp := fun vs H Q _ => ∃ (f g : Addr) (b n b' n' : Nat), vs = [.ref f, .ref g] ∧ IsFld C H f b n ∧ IsFld C H g b' n' ∧ Q (.bl (decide (b = b' ∧ n = n'))) H
theorem okFieldEq (T : TxtA K mg) : FnX P w K mg base CX0 false h 1 T.fEq.f T.fEq.fd pFieldEq (spFieldEq T.Field.C) := by
  refine funX0 (k := 0) T.fEq.F scFieldEq (fun vs H Q E ⟨f, g, b, n, b', n', e, _⟩ => e ▸ rfl) fun cdv A outer s H vs Q E p c ⟨f, g, b, n, b', n', e, ⟨dx, hf⟩, ⟨dy, hg⟩, q⟩ => ?_
  subst e
  refine ⟨_, pss_one (ps_ret (pe_and (pe_callB call_isi (by rfl) T.isinstance (by decide +kernel) (pa_cons (pv 1) (pa_cons (pe_glob (v := .ref T.Field.C) rfl T.Field.mg rfl) pa_nil))) (pe_and (pe_cmpR op_eq (pe_fld (pv 0) rfl) (pe_fld (pv 1) rfl) (nomark _)) (pe_one (pe_cmpR op_eq (pe_fld (pv 0) rfl) (pe_fld (pv 1) rfl) (nomark _)))))), ?_⟩
  refine ⟨_, rfl, .ref g, .ref T.Field.C, .ref T.Field.C, .ref T.Field.C, true, rfl, .own _, .base (.ins hg T.Field.cl T.fIns.ha T.fIns.hn T.fIns.ht T.fIns.hm), T.fIns.self, _, rfl, ifT rfl ?_⟩
  refine ⟨_, rfl, f, T.Field.C, dx, _, _, rfl, hf, T.Field.cl, T.noRoot, fldF_root b n, _, rfl, g, T.Field.C, dy, _, _, rfl, hg, T.Field.cl, T.noRoot, fldF_root b' n', rfl, _, rfl, ?_⟩
  have e1 : decide (V.int b = V.int b') = decide (b = b') := by simp [Int.ofNat_inj]
  have e2 : decide (V.int n = V.int n') = decide (n = n') := by simp [Int.ofNat_inj]
  rw [e1]
  by_cases hb : b = b'
  · rw [decide_eq_true hb]
    refine ifT rfl ?_
    refine ⟨_, rfl, f, T.Field.C, dx, _, _, rfl, hf, T.Field.cl, T.noWidth, fldF_width b n, _, rfl, g, T.Field.C, dy, _, _, rfl, hg, T.Field.cl, T.noWidth, fldF_width b' n', rfl, ?_⟩
    rw [e2]
    simpa [hb] using q
  · rw [decide_eq_false hb]
    refine ifF rfl ?_
    simpa [hb] using q
end
end Spf
end
section
set_option maxHeartbeats 4000000
/-! The program: words, falls, ways, rings. -/
namespace Spf
open PySem PySem.Spec PyProof.Rows L2 L2H HotX
theorem IsFld.same {C f : Addr} {H H' : Hp} {b n : Nat} (s : Same H H') : IsFld C H f b n → IsFld C H' f b n := fun ⟨dx, h⟩ => ⟨dx, s _ _ h⟩
theorem figs_mem {b d : Nat} (hb : b ≤ 12) (h : d < b) : sg d ∈ (figs b).cps.toList := by
  have : ∀ b : Fin 13, ∀ d : Fin 12, (d : Nat) < (b : Nat) → sg d ∈ (figs b).cps.toList := by decide +kernel
  exact this ⟨b, by omega⟩ ⟨d, by omega⟩ h
section
variable {g : TG} {tt : TT} {te : TE} {vs : List Nat} {σ : L2.St} {H1 : Hp} {D : Addr} {Qd : Hp → Prop} {ys : List V} {K : PySem.W.Frag}
theorem lc_mapZip {a b : Addr} {xs zs : List V} (hD : H1 D = none) (ha : SqL K H1 a xs) (hb : SqT K H1 b zs) (hl : xs.length = zs.length) (hy : ys.length = xs.length) (hn : xs.length ≤ 1000000)
    (hs : ∀ (i : Nat) (x z : V) (T : Addr) (H : Hp) (Qe : VK), xs[i]? = some x → zs[i]? = some z → Same H1 H → H T = some (.tup [x, z]) → (∀ y H4, ys[i]? = some y → Same H H4 → Qe y H4) → g (.ref T) (wipe σ vs) H fun σ2 H2 => wipe σ2 vs = wipe σ vs ∧ tt σ2 H2 fun b H3 => b = true ∧ te σ2 H3 Qe)
    (hd : ∀ H, Same H1 H → H D = some (.lst ys) → Qd H)
    (mono : ∀ x σ H Q Q', (∀ σ2 H2, Q σ2 H2 → Q' σ2 H2) → g x σ H Q → g x σ H Q') (mono2 : ∀ σ H Q Q', (∀ b H2, Q b H2 → Q' b H2) → tt σ H Q → tt σ H Q' := by exact fun _ _ _ _ h q => h _ _ q) :
    ∃ W : Nat → Nat → Hp → Prop, (∃ m, W 0 m (upd H1 D (.lst []))) ∧ ∀ i m H, W i m H →
      ((ItzM K a b).stop i H ∧ Qd H) ∨ ((ItzM K a b).go i H ∧ ∃ Nx : Hp → Prop, (∀ H', Nx H' → ∃ m', m' < m ∧ W (i + 1) m' H') ∧ ∀ v H', (ItzM K a b).yld i H v H' → g v (wipe σ vs) H' fun σ2 H2 => wipe σ2 vs = wipe σ vs ∧ tt σ2 H2 fun b H3 =>
        if b = true then te σ2 H3 fun y H4 => ∃ acc, H4 D = some (.lst acc) ∧ acc.length < sizeLine ∧ Nx (upd H4 D (.lst (acc ++ [y]))) else Nx H3) := by
  refine ⟨fun i m H => m = xs.length - i ∧ i ≤ xs.length ∧ Same H1 H ∧ H D = some (.lst (ys.take i)), ⟨xs.length, by simp, Nat.zero_le _, (Same.refl _).new hD, upd_same⟩, ?_⟩
  rintro i m H ⟨rfl, hi, p1, p2⟩
  by_cases hlt : i < xs.length
  · have hx : xs[i]? = some xs[i] := List.getElem?_eq_getElem hlt
    have hz : zs[i]? = some zs[i] := List.getElem?_eq_getElem (by omega)
    refine .inr ⟨⟨xs, zs, _, _, p1.seq ha, p1.seqT hb, hx, hz⟩, fun H' => Same H1 H' ∧ H' D = some (.lst (ys.take (i + 1))), fun H' p' => ⟨xs.length - (i + 1), by omega, rfl, hlt, p'⟩, fun v H' y => ?_⟩
    obtain ⟨T, x', z', rfl, hT, rfl, f1, f2⟩ := y
    have sT := p1.new (o := .tup [x', z']) hT
    have nDT : D ≠ T := ne_of_none p2 hT
    have := hs i x' z' T (upd H T (.tup [x', z'])) (fun y H4 => ∃ acc, H4 D = some (.lst acc) ∧ acc.length < sizeLine ∧ Same H1 (upd H4 D (.lst (acc ++ [y]))) ∧ upd H4 D (.lst (acc ++ [y])) D = some (.lst (ys.take (i + 1)))) (f1 _ (p1.seq ha)) (f2 _ (p1.seqT hb)) sT upd_same (fun y H4 hy' s4 => ?_)
    · refine mono _ _ _ _ _ (fun σ2 H2 ⟨e, h⟩ => ⟨e, mono2 _ _ _ _ (fun b H3 ⟨eb, h⟩ => ?_) h⟩) this
      subst eb
      rw [if_pos rfl]
      exact h
    · refine ⟨_, s4 _ _ (by rw [upd_ne nDT]; exact p2), ?_, fun a o ha' => ?_, ?_⟩
      · rw [List.length_take, sizeLine_eq]; omega
      · rw [upd_ne (ne_of_none ha' hD)]
        exact s4 _ _ (sT _ _ ha')
      · rw [upd_same, List.take_add_one, hy']
        rfl
  · have e : i = xs.length := by omega
    subst e
    rw [← hy, List.take_length] at p2
    exact .inl ⟨⟨xs, zs, p1.seq ha, p1.seqT hb, rfl, hl.symm⟩, hd H p1 p2⟩
end
section
variable {P : Program} {w : World} {K : PySem.W.Frag} {mg : Str → Option Value} {base : Heap}
/-! ### is_spelled -/
abbrev vIsSpelled : List Str := ["field", "value", "sign"]
abbrev pIsSpelled : List Str := ["field", "value"]
theorem scIsSpelled : FnScope vIsSpelled pIsSpelled (defScope (top 32)) := ⟨rfl, rfl, rfl, by decide +kernel, rfl, by decide +kernel, by decide +kernel⟩
def spIsSpelled (C : Addr) : Sp := fun vs H Q _ => ∃ (f : Addr) (b n : Nat) (ds : List Nat), vs = [.ref f, .str (wd ds)] ∧ IsFld C H f b n ∧ Fld b n ∧ Wd b n ds ∧ ∀ H', Same H H' → Q (.bl true) H'
theorem okIsSpelled (T : TxtA K mg) : FnX P w K mg base CX0 false false 3 T.is_spelled.f T.is_spelled.fd pIsSpelled (spIsSpelled T.Field.C) := by
  refine funX0 (k := 2) T.is_spelled.F scIsSpelled (fun vs H Q E ⟨f, b, n, ds, e, _⟩ => e ▸ rfl) fun cdv A outer s H vs Q E p c ⟨f, b, n, ds, e, hf, F, W, q⟩ => ?_
  subst e
  have n6 := F.n6
  have b12 := F.b12
  have wl := W.len
  obtain ⟨dx, hdx⟩ := id hf
  refine ⟨_, pss_cons (ps_if (PW.pt (pw_or (pt_not (pt_val (pe_callB call_isi (by rfl) T.isinstance (by decide +kernel) (pa_cons (pv 1) (pa_cons (pe_tyB "str" (by rfl) T.str (by decide +kernel)) pa_nil))))) (pw_or1 (pt_cmpR op_ne (pe_callB call_len_str (by rfl) T.len PySem.boot_len (pa_cons (pv 1) pa_nil)) (pe_propX (E := fun _ => E0) (pv 0) T.Field.cl T.fPlaces.p (okFieldPlaces T) (c.mono (by decide)) nogd T.fPlaces.b rfl) (nomark _))))) (pss_one (ps_ret pe_bl)) pss_nil)
      (pss_one (ps_ret (pe_callB (cr_all rfl) (by rfl) T.all (by decide +kernel) (pa_cons (pe_lc rfl (own := [("sign", 2)]) (g := gName 2) scIsSpelled.nd (pi_str (pv 1)) (blkOk_by (N := vIsSpelled) (sc := defScope (top 32)) (by decide +kernel)) (fun _ _ _ _ _ => (pg_name (i := 2) scIsSpelled.nd rfl (Or.inl rfl))) (fun _ _ _ _ _ => pts_nil) (fun _ _ _ _ _ => (pe_cmpR op_in_sign (pv 2) (pe_propX (E := fun _ => E0) (pv 0) T.Field.cl T.fFigures.p (okFieldFigures T) (c.blk.mono (by decide)) nogd T.fFigures.b rfl) (by rfl)))) pa_nil)))), ?_⟩
  refine ⟨_, rfl, .str (wd ds), .ty "str", .type "str", .type "str", true, rfl, .ty _, .base (.str _), kit_ty (by decide +kernel), _, rfl, ifF rfl ?_⟩
  refine ⟨_, rfl, _, rfl, by rw [wd_length]; exact szL (by omega), _, rfl, f, dx, _, rfl, hdx, f, b, n, rfl, hf, rfl, _, rfl, ifF ?_ ?_⟩
  · rw [wd_length, wl]; simp
  refine ⟨_, rfl, _, rfl, fun D hD => lc_mapStr (ys := ds.map fun _ => V.bl true) hD (by simp [wd]) (by simp [wd]; omega) ?_ fun H2 s2 h2 => ?_⟩
  · intro i cc H3 Qe hc s3 hq
    obtain ⟨d, hd, rfl⟩ : ∃ d, ds[i]? = some d ∧ cc = sg d := by
      simp [wd] at hc
      obtain ⟨d, h1, h2⟩ := hc
      exact ⟨d, h1, h2.symm⟩
    refine ⟨rfl, rfl, _, rfl, _, rfl, f, dx, _, rfl, s3 _ _ hdx, f, b, n, rfl, hf.same s3, sg d, figs b, rfl, rfl, ?_⟩
    rw [decide_eq_true (figs_mem b12 (W.lt d (List.mem_of_getElem? hd)))]
    exact hq _ _ (by simp [hd]) (Same.refl _)
  · refine ⟨D, ds.map fun _ => true, rfl, SqL.of (by rw [h2, List.map_map]; rfl), ?_⟩
    have : (ds.map fun _ => true).all id = true := by simp
    rw [this]
    exact q H2 s2
/-! ### figures_of -/
abbrev vFiguresOf : List Str := ["word", "sign"]
abbrev pFiguresOf : List Str := ["word"]
theorem scFiguresOf : FnScope vFiguresOf pFiguresOf (defScope (top 33)) := ⟨rfl, rfl, rfl, by decide +kernel, rfl, by decide +kernel, by decide +kernel⟩
def spFiguresOf : Sp := fun vs H Q _ => ∃ (b n : Nat) (ds : List Nat), vs = [.str (wd ds)] ∧ Fld b n ∧ Wd b n ds ∧ ∀ (l : Addr) (H' : Hp), Same H H' → H' l = some (.lst ((ds.map Int.ofNat).map V.int)) → H l = none → Q (.ref l) H'
theorem okFiguresOf (T : TxtA K mg) : FnX P w K mg base CX0 false false 1 T.figures_of.f T.figures_of.fd pFiguresOf spFiguresOf := by
  refine funX0 (k := 0) T.figures_of.F scFiguresOf (fun vs H Q E ⟨b, n, ds, e, _⟩ => e ▸ rfl) fun cdv A outer s H vs Q E p c ⟨b, n, ds, e, F, W, q⟩ => ?_
  subst e
  have n6 := F.n6
  have wl := W.len
  have d12 := W.lt12 F
  refine ⟨_, pss_one (ps_ret (pe_lc rfl (own := [("sign", 1)]) (g := gName 1) scFiguresOf.nd (pi_str (pv 0)) (blkOk_by (N := vFiguresOf) (sc := defScope (top 33)) (by decide +kernel)) (fun _ _ _ _ _ => (pg_name (i := 1) scFiguresOf.nd rfl (Or.inl rfl))) (fun _ _ _ _ _ => pts_nil) (fun _ _ _ _ _ => (pe_bmSK K PySem.F.plainAttrs_str PySem.F.slot_str_index PySem.F.type_str_index (mt_indexX rfl takesN) (pe_glob (v := .str "0123456789ab") rfl T.SIGNS ⟨_, rfl⟩) (pa_cons (pv 1) pa_nil))))), ?_⟩
  refine ⟨_, rfl, _, rfl, fun D hD => lc_mapStr (ys := (ds.map Int.ofNat).map V.int) hD (by simp [wd]) (by simp [wd]; omega) ?_ fun H2 s2 h2 => q D H2 s2 h2 hD⟩
  intro i cc H3 Qe hc s3 hq
  obtain ⟨d, hd, rfl⟩ : ∃ d, ds[i]? = some d ∧ cc = sg d := by
    simp [wd] at hc
    obtain ⟨d, h1, h2⟩ := hc
    exact ⟨d, h1, h2.symm⟩
  refine ⟨rfl, rfl, rfl, _, rfl, one_sg (d12 d (List.mem_of_getElem? hd)) (hq _ _ ?_ (Same.refl _))⟩
  simp [hd]
/-! ### spelled -/
abbrev vSpelled : List Str := ["field", "number", "found", "at", "figure"]
abbrev pSpelled : List Str := ["field", "number"]
theorem scSpelled : FnScope vSpelled pSpelled (defScope (top 34)) := ⟨rfl, rfl, rfl, by decide +kernel, rfl, by decide +kernel, by decide +kernel⟩
def spSpelled (C : Addr) : Sp := fun vs H Q _ => ∃ (f : Addr) (b n k : Nat), vs = [.ref f, .int k] ∧ IsFld C H f b n ∧ Fld b n ∧ ∀ H', Same H H' → Q (.str (wd (low b n k))) H'
theorem okSpelled (T : TxtA K mg) : FnX P w K mg base CX0 false false 3 T.spelled.f T.spelled.fd pSpelled (spSpelled T.Field.C) := by
  refine funX0 (k := 2) T.spelled.F scSpelled (fun vs H Q E ⟨f, b, n, k, e, _⟩ => e ▸ rfl) fun cdv A outer s H vs Q E p c ⟨f, b, n, k, e, hf, F, q⟩ => ?_
  subst e
  have b2 := F.b2
  have b12 := F.b12
  have n6 := F.n6
  obtain ⟨dx, hdx⟩ := id hf
  refine ⟨_, pss_cons (ps_set (i := 2) scSpelled.nd rfl (Or.inl rfl) pe_str)
      (pss_cons (ps_for PassesOwn.never rfl (pi_range1 rfl T.range (pa_cons (pe_propX (E := fun _ => E0) (pv 0) T.Field.cl T.fPlaces.p (okFieldPlaces T) (c.mono (by decide)) nogd T.fPlaces.b rfl) pa_nil)) (pg_name (i := 3) scSpelled.nd rfl (Or.inl rfl)) (pss_cons (ps_asg (pe_callB call_divmod (by rfl) T.divmod (by decide +kernel) (pa_cons (pv 1) (pa_cons (pe_propX (E := fun _ => E0) (pv 0) T.Field.cl T.fBase.p (okFieldBase T) (c.mono (by decide)) nogd T.fBase.b rfl) pa_nil))) (pg_tupX c.md (pgs_cons (pg_name (i := 1) scSpelled.nd rfl (Or.inl rfl)) (pgs_cons (pg_name (i := 4) scSpelled.nd rfl (Or.inl rfl)) pgs_nil))))
      (pss_one (ps_set (i := 2) scSpelled.nd rfl (Or.inl rfl) (pe_op op_add_str (pe_ix ix_str (pe_glob (v := .str "0123456789ab") rfl T.SIGNS ⟨_, rfl⟩) (pv 4) (fun _ _ => rfl)) (pv 2))))))
      (pss_one (ps_ret (pv 2)))), ?_⟩
  refine ⟨_, rfl, f, dx, _, rfl, hdx, f, b, n, rfl, hf, n, rfl, by omega, by omega, for_range (n := (n : Int).toNat) (fun i σ H' => Same H H' ∧ ∃ (u v : Option V), σ = [some (.ref f), some (.int (k / b ^ i : Nat)), some (.str (wd (low b i k))), u, v]) ⟨Same.refl _, _, _, by rw [Nat.pow_zero, Nat.div_one]; rfl⟩ ?_ ?_⟩
  · rintro i σ H' hi ⟨h1, u, v, rfl⟩
    refine ⟨_, rfl, _, rfl, f, dx, _, rfl, h1 _ _ hdx, f, b, n, rfl, hf.same h1, _, _, rfl, ⟨by omega, by omega⟩, fun t ht => ?_⟩
    refine ⟨t, _, rfl, SqT.of upd_same, rfl, _, _, rfl, _, _, rfl, rfl, ?_⟩
    have hf : (k / b ^ i) % b < 12 := by have := Nat.mod_lt (k / b ^ i) (show 0 < b by omega); omega
    refine ⟨_, rfl, ?_⟩
    rw [← Int.natCast_ediv, ← Int.natCast_emod]
    refine rSg hf ⟨_, rfl, _, _, rfl, rfl, ?_, h1.new ht, some (.int (0 + i)), some (.int ((k / b ^ i % b : Nat) : Int)), ?_⟩
    · rw [strlen_sgn, wd_length, low_length]; exact szL (by omega)
    · rw [low, wd_cons, Nat.pow_succ, ← Nat.div_div_eq_div_mul]
      rfl
  · rintro σ H' ⟨h1, u, v, rfl⟩
    rw [Int.toNat_natCast]
    exact ⟨_, rfl, q H' h1⟩
/-! ### spreads_of -/
abbrev vSpreadsOf : List Str := ["word", "row", "at"]
abbrev pSpreadsOf : List Str := ["word"]
theorem scSpreadsOf : FnScope vSpreadsOf pSpreadsOf (defScope (top 36)) := ⟨rfl, rfl, rfl, by decide +kernel, rfl, by decide +kernel, by decide +kernel⟩
theorem okSpreadsOf (T : TxtA K mg) : FnX P w K mg base CX0 false false 2 T.spreads_of.f T.spreads_of.fd pSpreadsOf spSpreads := by
  refine funX0 (k := 1) T.spreads_of.F scSpreadsOf (fun vs H Q E ⟨b, n, ds, e, _⟩ => e ▸ rfl) fun cdv A outer s H vs Q E p c ⟨b, n, ds, e, F, W, q⟩ => ?_
  subst e
  have n6 := F.n6
  have wl := W.len
  refine ⟨_, pss_cons (ps_set (i := 1) scSpreadsOf.nd rfl (Or.inr rfl) (pe_revL (pe_callB cr_sorted (by rfl) T.sorted (by decide +kernel) (pa_cons (pe_callX (okFiguresOf T) (c.mono (by decide)) nogd rfl T.figures_of.mg T.figures_of.kp T.figures_of.b at00 (pa_cons (pv 0) pa_nil)) pa_nil))))
      (pss_one (ps_ret (pe_callTy call_tuple_of (by rfl) T.tuple (by decide +kernel) (pa_cons (pe_lc rfl (own := [("at", 2)]) (g := gName 2) scSpreadsOf.nd (pi_range1 rfl T.range (pa_cons (pe_op op_fdiv (pe_callB call_len_seq (by rfl) T.len PySem.boot_len (pa_cons (pv 1) pa_nil)) pe_int) pa_nil)) (blkOk_by (N := vSpreadsOf) (sc := defScope (top 36)) (by decide +kernel)) (fun _ _ _ _ _ => (pg_name (i := 2) scSpreadsOf.nd rfl (Or.inl rfl))) (fun _ _ _ _ _ => pts_nil) (fun _ _ _ _ _ => (pe_op op_sub (pe_ix (ix_listK K) (pv 1) (pv 2) (fun _ _ => rfl)) (pe_ix (ix_listK K) (pv 1) (pe_op op_sub (pe_op op_sub (pe_callB (call_len_seqK K) (by rfl) T.len PySem.boot_len (pa_cons (pv 1) pa_nil)) pe_int) (pv 2)) (fun _ _ => rfl))))) pa_nil)))), ?_⟩
  refine ⟨_, rfl, b, n, ds, rfl, F, W, fun D H2 s2 h2 hD => ?_⟩
  refine ⟨D, _, rfl, SqL.of h2, by simp; omega, fun ns' r hp hs hr => ?_⟩
  obtain rfl := asc_ints hp hs
  have hal : (asc ds).length = ds.length := (asc_perm ds).length_eq
  have s3 := s2.new (o := .lst (((asc ds).map Int.ofNat).map V.int)) hr
  refine ⟨r, _, rfl, SqL.of upd_same, fun r2 hr2 => ?_⟩
  have s4 := s3.new (o := .lst (((asc ds).map Int.ofNat).map V.int).reverse) hr2
  have h4 := upd_same (H := upd H2 r (.lst (((asc ds).map Int.ofNat).map V.int))) (a := r2) (o := .lst (((asc ds).map Int.ofNat).map V.int).reverse)
  generalize upd (upd H2 r (.lst (((asc ds).map Int.ofNat).map V.int))) r2 (.lst (((asc ds).map Int.ofNat).map V.int).reverse) = H3 at s4 h4 ⊢
  refine ⟨_, rfl, r2, _, rfl, .inl (SqL.of h4), _, _, rfl, rfl, ⟨by decide, by decide⟩, _, rfl, ?_⟩
  have hlen : (((asc ds).map Int.ofNat).map V.int).reverse.length = n := by simp [hal, wl]
  rw [hlen]
  have hdiv : ((n : Int) / 2) = ((n / 2 : Nat) : Int) := by omega
  rw [hdiv]
  refine ⟨by omega, by omega, ?_⟩
  rw [Int.toNat_natCast]
  intro D2 hD2
  have at_ : ∀ j, j < n → (((asc ds).map Int.ofNat).map V.int).reverse[j]? = some (V.int (((asc ds).getD (n - 1 - j) 0 : Nat) : Int)) := fun j hj => by
    have i1 : n - 1 - j < (asc ds).length := by omega
    rw [List.getElem?_reverse (by simp; omega)]
    simp only [List.length_map]
    rw [hal, wl, List.getElem?_map, List.getElem?_map, List.getElem?_eq_getElem i1, List.getD_eq_getElem?_getD, List.getElem?_eq_getElem i1]
    rfl
  refine lc_mapRange (ys := (spr ds).map V.int) hD2 (by simp [spr, wl]) (by omega) (fun i H5 Qe hi s5 hq => ?_) (fun H5 s5 h5 => ?_)
  · refine ⟨rfl, rfl, ?_⟩
    have h5 := s5 _ _ h4
    have hz : (0 : Int) + (i : Int) = (i : Nat) := by omega
    rw [hz]
    refine ⟨_, rfl, _, rfl, r2, _, _, _, rfl, rfl, SqL.of h5, atI_nat (at_ i (by omega)), ?_⟩
    refine ⟨_, rfl, _, rfl, r2, _, rfl, .inl (SqL.of h5), _, _, rfl, rfl, _, rfl, _, _, rfl, rfl, ?_⟩
    rw [hlen]
    have hx : ((n : Int) - 1 - (i : Nat)) = ((n - 1 - i : Nat) : Int) := by omega
    refine ⟨r2, _, ((n - 1 - i : Nat) : Int), _, rfl, congrArg V.int hx, SqL.of h5, atI_nat (at_ (n - 1 - i) (by omega)), ?_⟩
    refine ⟨_, _, rfl, rfl, hq _ _ ?_ (Same.refl _)⟩
    have e1 : n - 1 - (n - 1 - i) = i := by omega
    rw [e1]
    simp [spr, wl, hi]
  · refine ⟨D2, _, rfl, .inl ⟨SqL.of h5, fun l hl => ?_⟩⟩
    exact q l _ ((s4.trans s5).new hl) upd_same ((s4.trans s5).free hl)
/-! ### weights_of -/
abbrev vWeightsOf : List Str := ["field", "powers", "at"]
abbrev pWeightsOf : List Str := ["field"]
theorem scWeightsOf : FnScope vWeightsOf pWeightsOf (defScope (top 37)) := ⟨rfl, rfl, rfl, by decide +kernel, rfl, by decide +kernel, by decide +kernel⟩
def spWeights (C : Addr) : Sp := fun vs H Q _ => ∃ (f : Addr) (b n : Nat), vs = [.ref f] ∧ IsFld C H f b n ∧ Fld b n ∧ ∀ (l : Addr) (H' : Hp), Same H H' → H' l = some (.lst ((wts b n).map V.int)) → H l = none → Q (.ref l) H'
theorem okWeightsOf (T : TxtA K mg) : FnX P w K mg base CX0 false false 3 T.weights_of.f T.weights_of.fd pWeightsOf (spWeights T.Field.C) := by
  refine funX0 (k := 2) T.weights_of.F scWeightsOf (fun vs H Q E ⟨f, b, n, e, _⟩ => e ▸ rfl) fun cdv A outer s H vs Q E p c ⟨f, b, n, e, hf, F, q⟩ => ?_
  subst e
  have n6 := F.n6
  have b12 := F.b12
  obtain ⟨dx, hdx⟩ := id hf
  refine ⟨_, pss_cons (ps_set (i := 1) scWeightsOf.nd rfl (Or.inr rfl) (pe_callX (okPowersOf T) (c.mono (by decide)) nogd rfl T.powers_of.mg T.powers_of.kp T.powers_of.b at00 (pa_cons (pe_propX (E := fun _ => E0) (pv 0) T.Field.cl T.fBase.p (okFieldBase T) (c.mono (by decide)) nogd T.fBase.b rfl) (pa_cons (pe_propX (E := fun _ => E0) (pv 0) T.Field.cl T.fPlaces.p (okFieldPlaces T) (c.mono (by decide)) nogd T.fPlaces.b rfl) pa_nil))))
      (pss_one (ps_ret (pe_lc rfl (own := [("at", 2)]) (g := gName 2) scWeightsOf.nd (pi_range1 rfl T.range (pa_cons (pe_op op_fdiv (pe_propX (E := fun _ => E0) (pv 0) T.Field.cl T.fPlaces.p (okFieldPlaces T) (c.mono (by decide)) nogd T.fPlaces.b rfl) pe_int) pa_nil)) (blkOk_by (N := vWeightsOf) (sc := defScope (top 37)) (by decide +kernel)) (fun _ _ _ _ _ => (pg_name (i := 2) scWeightsOf.nd rfl (Or.inl rfl))) (fun _ _ _ _ _ => pts_nil) (fun _ _ _ _ _ => (pe_op op_sub (pe_ix (ix_listK K) (pv 1) (pe_op op_sub (pe_op op_sub (pe_propX (E := fun _ => E0) (pv 0) T.Field.cl T.fPlaces.p (okFieldPlaces T) (c.blk.mono (by decide)) nogd T.fPlaces.b rfl) pe_int) (pv 2)) (fun _ _ => rfl)) (pe_ix (ix_listK K) (pv 1) (pv 2) (fun _ _ => rfl))))))), ?_⟩
  refine ⟨_, rfl, f, dx, _, rfl, hdx, f, b, n, rfl, hf, _, rfl, f, dx, _, rfl, hdx, f, b, n, rfl, hf, b, n, rfl, b12, n6, fun l H1 s1 h1 h0 => ?_⟩
  refine ⟨_, rfl, f, dx, _, rfl, s1 _ _ hdx, f, b, n, rfl, hf.same s1, _, _, rfl, rfl, ⟨by decide, by decide⟩, _, rfl, ?_⟩
  have hdiv : ((n : Int) / 2) = ((n / 2 : Nat) : Int) := by omega
  rw [hdiv]
  refine ⟨by omega, by omega, ?_⟩
  rw [Int.toNat_natCast]
  intro D2 hD2
  have at_ : ∀ j, j ≤ n → (pows b n)[j]? = some (V.int (b ^ j : Nat)) := fun j hj => by
    unfold pows
    rw [List.getElem?_map, List.getElem?_range (by omega)]
    rfl
  refine lc_mapRange (ys := (wts b n).map V.int) hD2 (by simp [wts]) (by omega) (fun i H5 Qe hi s5 hq => ?_) (fun H5 s5 h5 => ?_)
  · refine ⟨rfl, rfl, ?_⟩
    have h5 := s5 _ _ h1
    have hz : (0 : Int) + (i : Int) = (i : Nat) := by omega
    rw [hz]
    have hx : ((n : Int) - 1 - (i : Nat)) = ((n - 1 - i : Nat) : Int) := by omega
    refine ⟨_, rfl, _, rfl, f, dx, _, rfl, (s1.trans s5) _ _ hdx, f, b, n, rfl, hf.same (s1.trans s5), _, _, rfl, rfl, _, rfl, _, _, rfl, rfl, ?_⟩
    refine ⟨l, _, ((n - 1 - i : Nat) : Int), _, rfl, congrArg V.int hx, SqL.of h5, atI_nat (at_ (n - 1 - i) (by omega)), ?_⟩
    refine ⟨_, rfl, _, rfl, l, _, _, _, rfl, rfl, SqL.of h5, atI_nat (at_ i (by omega)), _, _, rfl, rfl, hq _ _ ?_ (Same.refl _)⟩
    simp [wts, hi]
  · exact q D2 H5 (s1.trans s5) h5 (s1.free hD2)
/-! ### fall_value, fall_from, next_word -/
abbrev vFallValue : List Str := ["field", "some", "weight", "spread"]
abbrev pFallValue : List Str := ["field", "some"]
theorem scFallValue : FnScope vFallValue pFallValue (defScope (top 38)) := ⟨rfl, rfl, rfl, by decide +kernel, rfl, by decide +kernel, by decide +kernel⟩
def spFallValue (C : Addr) (K : PySem.W.Frag) : Sp := fun vs H Q _ => ∃ (f t : Addr) (b n : Nat) (ss : List Int), vs = [.ref f, .ref t] ∧ IsFld C H f b n ∧ Fld b n ∧ SqT K H t (ss.map V.int) ∧ ss.length = n / 2 ∧ (∀ x ∈ wts b n, -(2 ^ 64) < x ∧ x < 2 ^ 64) ∧ ∀ H', Same H H' → Q (.int (fallV b n ss)) H'
theorem okFallValue (T : TxtA K mg) : FnX P w K mg base CX0 false false 4 T.fall_value.f T.fall_value.fd pFallValue (spFallValue T.Field.C K) := by
  refine funX0 (k := 3) T.fall_value.F scFallValue (fun vs H Q E ⟨f, t, b, n, ss, e, _⟩ => e ▸ rfl) fun cdv A outer s H vs Q E p c ⟨f, t, b, n, ss, e, hf, F, ht, hl, hw, q⟩ => ?_
  subst e
  have n6 := F.n6
  refine ⟨_, pss_one (ps_ret (pe_callB (cr_sum rfl) (by rfl) T.sum (by decide +kernel) (pa_cons (pe_lc rfl (own := [("weight", 2), ("spread", 3)]) scFallValue.nd (pi_zipM rfl T.zip (pa_cons (pe_callX (okWeightsOf T) (c.mono (by decide)) nogd rfl T.weights_of.mg T.weights_of.kp T.weights_of.b at00 (pa_cons (pv 0) pa_nil)) (pa_cons (pv 1) pa_nil))) (blkOk_by (N := vFallValue) (sc := defScope (top 38)) (by decide +kernel)) (fun _ _ _ _ _ => (pg_tupK K (n := 2) c.blk.md (pgs_cons (pg_name (i := 2) scFallValue.nd rfl (Or.inl rfl)) (pgs_cons (pg_name (i := 3) scFallValue.nd rfl (Or.inl rfl)) pgs_nil)))) (fun _ _ _ _ _ => pts_nil) (fun _ _ _ _ _ => (pe_op op_mul (pv 2) (pv 3)))) pa_nil))), ?_⟩
  refine ⟨_, rfl, f, b, n, rfl, hf, F, fun l H1 s1 h1 h0 => ?_⟩
  have wl : (wts b n).length = n / 2 := by simp [wts]
  refine ⟨_, rfl, l, t, _, _, rfl, SqL.of h1, s1.seqT ht, fun D hD => lc_mapZip (K := K) (xs := (wts b n).map V.int) (zs := ss.map V.int) (ys := (List.zipWith (· * ·) (wts b n) ss).map V.int) hD (SqL.of h1) (s1.seqT ht) (by simp [wl, hl]) (by simp [wl, hl]) (by simp [wl]; omega) ?_ ?_ ?_⟩
  · intro i x z T' H3 Qe hx hz s3 hT hq
    rw [List.getElem?_map] at hx hz
    cases hxi : (wts b n)[i]? with
    | none => rw [hxi] at hx; cases hx
    | some x' =>
      cases hzi : ss[i]? with
      | none => rw [hzi] at hz; cases hz
      | some z' =>
        rw [hxi] at hx
        rw [hzi] at hz
        cases hx
        cases hz
        refine ⟨T', _, rfl, SqT.of hT, rfl, _, _, rfl, _, _, rfl, rfl, rfl, rfl, _, rfl, _, rfl, _, _, rfl, rfl, .inl (hw x' (List.mem_of_getElem? hxi)), hq _ _ ?_ (Same.refl _)⟩
        rw [List.getElem?_map, List.getElem?_zipWith, hxi, hzi]
        rfl
  · intro H2 s2 h2
    exact ⟨D, _, rfl, SqL.of h2, q H2 (s1.trans s2)⟩
  · rintro x σ H Q Q' h ⟨a, xs, e, hs, hn, v, r, e1, v2, r2, e2, e3, q⟩
    exact ⟨a, xs, e, hs, hn, v, r, e1, v2, r2, e2, e3, h _ _ q⟩
theorem wts_small {b n : Nat} (F : Fld b n) : ∀ x ∈ wts b n, -(2 ^ 64) < x ∧ x < 2 ^ 64 := by
  intro x hx
  obtain ⟨k, hk, rfl⟩ := List.mem_map.mp hx
  have hk' := List.mem_range.mp hk
  have hb : 0 < b := by have := F.b2; omega
  have h1 := Nat.pow_le_pow_right hb (show n - 1 - k ≤ n by omega)
  have h2 := Nat.pow_le_pow_right hb (show k ≤ n by omega)
  have := F.sz
  constructor <;> omega
theorem spr_len (ds : List Nat) : (spr ds).length = ds.length / 2 := by simp [spr]
abbrev vFallFrom : List Str := ["field", "some"]
abbrev pFallFrom : List Str := ["field", "some"]
theorem scFallFrom : FnScope vFallFrom pFallFrom (defScope (top 39)) := ⟨rfl, rfl, rfl, by decide +kernel, rfl, by decide +kernel, by decide +kernel⟩
def spFallFrom (C : Addr) (K : PySem.W.Frag) : Sp := fun vs H Q _ => ∃ (f t : Addr) (b n : Nat) (ds : List Nat), vs = [.ref f, .ref t] ∧ IsFld C H f b n ∧ Fld b n ∧ Wd b n ds ∧ SqT K H t ((spr ds).map V.int) ∧ ∀ H', Same H H' → Q (.str (wd (nxt b ds))) H'
theorem okFallFrom (T : TxtA K mg) : FnX P w K mg base CX0 false false 5 T.fall_from.f T.fall_from.fd pFallFrom (spFallFrom T.Field.C K) := by
  refine funX0 (k := 4) T.fall_from.F scFallFrom (fun vs H Q E ⟨f, t, b, n, ds, e, _⟩ => e ▸ rfl) fun cdv A outer s H vs Q E p c ⟨f, t, b, n, ds, e, hf, F, W, ht, q⟩ => ?_
  subst e
  refine ⟨_, pss_one (ps_ret (pe_callX (okSpelled T) (c.mono (by decide)) nogd rfl T.spelled.mg T.spelled.kp T.spelled.b at00 (pa_cons (pv 0) (pa_cons (pe_callX (okFallValue T) (c.mono (by decide)) nogd rfl T.fall_value.mg T.fall_value.kp T.fall_value.b at00 (pa_cons (pv 0) (pa_cons (pv 1) pa_nil))) pa_nil)))), ?_⟩
  refine ⟨_, rfl, _, rfl, _, rfl, f, t, b, n, spr ds, rfl, hf, F, ht, by rw [spr_len, W.len], wts_small F, fun H1 s1 => ?_⟩
  rw [fall_is F W]
  have hn := hiLo_nonneg F W
  refine ⟨f, b, n, (hiLo b ds).toNat, by rw [Int.toNat_of_nonneg hn], hf.same s1, F, fun H2 s2 => ?_⟩
  have := q H2 (s1.trans s2)
  unfold nxt at this
  rw [W.len] at this
  exact this
abbrev vNextWord : List Str := ["field", "word"]
abbrev pNextWord : List Str := ["field", "word"]
theorem scNextWord : FnScope vNextWord pNextWord (defScope (top 40)) := ⟨rfl, rfl, rfl, by decide +kernel, rfl, by decide +kernel, by decide +kernel⟩
def spNextWord (C : Addr) : Sp := fun vs H Q _ => ∃ (f : Addr) (b n : Nat) (ds : List Nat), vs = [.ref f, .str (wd ds)] ∧ IsFld C H f b n ∧ Fld b n ∧ Wd b n ds ∧ ∀ H', Same H H' → Q (.str (wd (nxt b ds))) H'
theorem okNextWord (T : TxtA K mg) : FnX P w K mg base CX0 false false 6 T.next_word.f T.next_word.fd pNextWord (spNextWord T.Field.C) := by
  refine funX0 (k := 5) T.next_word.F scNextWord (fun vs H Q E ⟨f, b, n, ds, e, _⟩ => e ▸ rfl) fun cdv A outer s H vs Q E p c ⟨f, b, n, ds, e, hf, F, W, q⟩ => ?_
  subst e
  refine ⟨_, pss_one (ps_ret (pe_callX (okFallFrom T) (c.mono (by decide)) nogd rfl T.fall_from.mg T.fall_from.kp T.fall_from.b at00 (pa_cons (pv 0) (pa_cons (pe_callX (okSpreadsOf T) (c.mono (by decide)) nogd rfl T.spreads_of.mg T.spreads_of.kp T.spreads_of.b at00 (pa_cons (pv 1) pa_nil)) pa_nil)))), ?_⟩
  refine ⟨_, rfl, _, rfl, b, n, ds, rfl, F, W, fun l H1 s1 h1 _ => ?_⟩
  exact ⟨f, l, b, n, ds, rfl, hf.same s1, F, W, SqT.of h1, fun H2 s2 => q H2 (s1.trans s2)⟩
/-! ### way_of, turned, ring_from, steps_from -/
abbrev vWayOf : List Str := ["field", "word", "found"]
abbrev pWayOf : List Str := ["field", "word"]
theorem scWayOf : FnScope vWayOf pWayOf (defScope (top 41)) := ⟨rfl, rfl, rfl, by decide +kernel, rfl, by decide +kernel, by decide +kernel⟩
def spWayOf (C : Addr) : Sp := fun vs H Q _ => ∃ (f : Addr) (b n : Nat) (ds : List Nat), vs = [.ref f, .str (wd ds)] ∧ IsFld C H f b n ∧ Fld b n ∧ Wd b n ds ∧ ∀ (r : Addr) (H' : Hp), Same H H' → H' r = some (.lst ((way b ds).map V.str)) → H r = none → (IsWay b ds (wayN b ds)) → Q (.ref r) H'
theorem okWayOf (T : TxtA K mg) : FnX P w K mg base CX0 false false 7 T.way_of.f T.way_of.fd pWayOf (spWayOf T.Field.C) := by
  refine funX0 (k := 6) T.way_of.F scWayOf (fun vs H Q E ⟨f, b, n, ds, e, _⟩ => e ▸ rfl) fun cdv A outer s H vs Q E p c ⟨f, b, n, ds, e, hf, F, W, q⟩ => ?_
  subst e
  refine ⟨_, pss_cons (ps_set (i := 2) scWayOf.nd rfl (Or.inl rfl) (pe_lst pa_nil))
      (pss_cons (ps_while PassesOwn.never (pt_cmpR op_notIn_seq (pv 1) (pv 2) (by rfl)) (pss_cons (ps_expr (pe_bm PySem.F.plainAttrs_list PySem.F.slot_list_append PySem.F.type_list_append mt_append (pv 2) (pa_cons (pv 1) pa_nil)))
      (pss_one (ps_set (i := 1) scWayOf.nd rfl (Or.inl rfl) (pe_callX (okNextWord T) (c.mono (by decide)) nogd rfl T.next_word.mg T.next_word.kp T.next_word.b at00 (pa_cons (pv 0) (pa_cons (pv 1) pa_nil)))))))
      (pss_one (ps_ret (pv 2)))), ?_⟩
  refine ⟨Nat.zero_le _, fun r hr => ?_⟩
  refine while_by (fun σ H' => ∃ m, σ = [some (.ref f), some (.str (wd (orb b ds m))), some (.ref r)] ∧ Same H H' ∧ H' r = some (.lst (((orbs b ds m).map wd).map V.str)) ∧ (orbs b ds m).Nodup) (fun σ H' => 1000001 - lenAt r H')
    ⟨0, rfl, (Same.refl _).new hr, upd_same, by simp [orbs]⟩ ?_ ?_
  · rintro σ H' ⟨m, rfl, h1, h2, h3⟩
    refine ⟨_, rfl, _, rfl, r, _, rfl, .inl (SqL.of h2), rfl, flat_strs _, _, rfl, ?_⟩
    have hw := orb_wd F W m
    have hm := orbs_few F W h3
    have hsz := F.sz
    rw [inV_strs]
    by_cases hin : orb b ds m ∈ orbs b ds m
    · rw [decide_eq_true ((mem_wds F W hw).mpr hin)]
      have iw : IsWay b ds m := ⟨h3, hin⟩
      have e := iw.is
      subst e
      exact ⟨_, rfl, q r H' h1 h2 hr iw⟩
    · rw [decide_eq_false (fun z => hin ((mem_wds F W hw).mp z))]
      refine ⟨_, rfl, .inl ⟨rfl, _, SqL.of h2⟩, _, rfl, r, _, _, rfl, rfl, h2, by simp only [List.length_map, orbs_length]; exact szLt (by omega), ?_⟩
      have s3 : Same H (upd H' r (.lst (((orbs b ds m).map wd).map V.str ++ [V.str (wd (orb b ds m))]))) := fun a o ha => by
        rw [upd_ne (ne_of_none ha hr)]
        exact h1 _ _ ha
      refine ⟨_, rfl, _, rfl, f, b, n, orb b ds m, rfl, hf.same s3, F, hw, fun H2 s2 => ?_⟩
      have h4 : H2 r = some (.lst (((orbs b ds (m + 1)).map wd).map V.str)) := by
        refine s2 _ _ ?_
        rw [upd_same, orbs_succ]
        simp
      refine ⟨⟨m + 1, rfl, s3.trans s2, h4, orbs_nd h3 hin⟩, ?_⟩
      have := orbs_few F W (orbs_nd h3 hin)
      rw [lenAt_of h4, lenAt_of h2]
      simp only [List.length_map, orbs_length]
      omega
  · rintro σ H Q Q' hq ⟨v, e, v2, e2, p, xs, r, f, g, h', k, hk, q⟩
    exact ⟨v, e, v2, e2, p, xs, r, f, g, h', k, hk, hq _ _ q⟩
abbrev vTurned : List Str := ["ring", "at"]
abbrev pTurned : List Str := ["ring"]
theorem scTurned : FnScope vTurned pTurned (defScope (top 43)) := ⟨rfl, rfl, rfl, by decide +kernel, rfl, by decide +kernel, by decide +kernel⟩
def spTurned : Sp := fun vs H Q _ => ∃ (t : Addr) (lp : List Str), vs = [.ref t] ∧ H t = some (.lst (lp.map V.str)) ∧ lp ≠ [] ∧ lp.length ≤ 1000000 ∧ ∀ (l : Addr) (H' : Hp), Same H H' → H' l = some (.tup ((turnS lp).map V.str)) → H l = none → Q (.ref l) H'
theorem okTurned (T : TxtA K mg) : FnX P w K mg base CX0 false false 1 T.turned.f T.turned.fd pTurned spTurned := by
  refine funX0 (k := 0) T.turned.F scTurned (fun vs H Q E ⟨t, lp, e, _⟩ => e ▸ rfl) fun cdv A outer s H vs Q E p c ⟨t, lp, e, ht, hne, hlpl, q⟩ => ?_
  subst e
  have hsp := SqL.of (K := K) ht
  refine ⟨_, pss_cons (ps_set (i := 1) scTurned.nd rfl (Or.inl rfl) (pe_bm PySem.F.plainAttrs_list PySem.F.slot_list_index PySem.F.type_list_index mt_index (pv 0) (pa_cons (pe_callB (cr_minS c rfl) (by rfl) T.min (by decide +kernel) (pa_cons (pv 0) pa_nil)) pa_nil)))
      (pss_one (ps_ret (pe_callTy call_tuple_of (by rfl) T.tuple (by decide +kernel) (pa_cons (pe_op op_cat (pe_slice sl_list (pv 0) (po_some (pv 1)) po_none) (pe_slice sl_list (pv 0) po_none (po_some (pv 1)))) pa_nil)))), ?_⟩
  refine ⟨_, rfl, .inl ⟨rfl, _, hsp⟩, _, rfl, ⟨t, lp, rfl, hsp, hne, one_index hsp (minS_mem hne) ?_⟩⟩
  refine ⟨_, rfl, _, rfl, _, rfl, t, _, rfl, hsp, fun u hu => ?_⟩
  have ntu : t ≠ u := ne_of_none ht hu
  refine ⟨_, rfl, _, rfl, _, rfl, t, _, rfl, SqL.of (by rw [upd_ne ntu, ht]), fun x hx => ?_⟩
  rw [cutV_from] at hx
  rw [cutV_from, cutV_to]
  have nux : u ≠ x := ne_of_none upd_same hx
  refine ⟨u, x, _, _, rfl, rfl, (by rw [upd_ne nux, upd_same]), upd_same, ?_, fun y hy => ?_⟩
  · simp only [List.length_drop, List.length_take, List.length_map]
    exact szL (by omega)
  · refine ⟨y, _, rfl, .inl ⟨SqL.of upd_same, fun z hz => ?_⟩⟩
    have s2 := ((Same.refl H).new (o := .lst ((lp.map V.str).drop (lp.idxOf (minS lp)))) hu).new (o := .lst ((lp.map V.str).take (lp.idxOf (minS lp)))) hx
    refine q z _ ((s2.new hy).new hz) ?_ ((s2.new hy).free hz)
    rw [upd_same]
    unfold turnS
    rw [List.map_append, List.map_drop, List.map_take]
theorem way_last {b : Nat} {ds : List Nat} (h : IsWay b ds (wayN b ds)) : ∃ j, wayN b ds = j + 1 ∧ atI ((way b ds).map V.str) (-1) = some (.str (wd (orb b ds j))) := by
  have hp := h.pos
  obtain ⟨j, hj⟩ : ∃ j, wayN b ds = j + 1 := ⟨wayN b ds - 1, by omega⟩
  refine ⟨j, hj, ?_⟩
  unfold way
  rw [hj, orbs_succ, List.map_append, List.map_append]
  exact atI_last _ _
abbrev vRingFrom : List Str := ["field", "word", "row", "begin"]
abbrev pRingFrom : List Str := ["field", "word"]
theorem scRingFrom : FnScope vRingFrom pRingFrom (defScope (top 44)) := ⟨rfl, rfl, rfl, by decide +kernel, rfl, by decide +kernel, by decide +kernel⟩
def spRingFrom (C : Addr) : Sp := fun vs H Q _ => ∃ (f : Addr) (b n : Nat) (ds : List Nat), vs = [.ref f, .str (wd ds)] ∧ IsFld C H f b n ∧ Fld b n ∧ Wd b n ds ∧ ∀ (l : Addr) (H' : Hp), Same H H' → H' l = some (.tup ((ring b ds).map V.str)) → H l = none → Q (.ref l) H'
theorem okRingFrom (T : TxtA K mg) : FnX P w K mg base CX0 false false 8 T.ring_from.f T.ring_from.fd pRingFrom (spRingFrom T.Field.C) := by
  refine funX0 (k := 7) T.ring_from.F scRingFrom (fun vs H Q E ⟨f, b, n, ds, e, _⟩ => e ▸ rfl) fun cdv A outer s H vs Q E p c ⟨f, b, n, ds, e, hf, F, W, q⟩ => ?_
  subst e
  refine ⟨_, pss_cons (ps_set (i := 2) scRingFrom.nd rfl (Or.inl rfl) (pe_callX (okWayOf T) (c.mono (by decide)) nogd rfl T.way_of.mg T.way_of.kp T.way_of.b at00 (pa_cons (pv 0) (pa_cons (pv 1) pa_nil))))
      (pss_cons (ps_set (i := 3) scRingFrom.nd rfl (Or.inl rfl) (pe_bm PySem.F.plainAttrs_list PySem.F.slot_list_index PySem.F.type_list_index mt_index (pv 2) (pa_cons (pe_callX (okNextWord T) (c.mono (by decide)) nogd rfl T.next_word.mg T.next_word.kp T.next_word.b at00 (pa_cons (pv 0) (pa_cons (pe_ix ix_list (pv 2) (pe_un un_neg pe_int) (fun _ _ => rfl)) pa_nil))) pa_nil)))
      (pss_one (ps_ret (pe_callX (okTurned T) (c.mono (by decide)) nogd rfl T.turned.mg T.turned.kp T.turned.b at00 (pa_cons (pe_slice sl_list (pv 2) (po_some (pv 3)) po_none) pa_nil))))), ?_⟩
  refine ⟨_, rfl, _, rfl, f, b, n, ds, rfl, hf, F, W, fun r H1 s1 h1 hr iw => ?_⟩
  obtain ⟨j, hj, hat⟩ := way_last iw
  refine ⟨_, rfl, .inl ⟨rfl, _, SqL.of h1⟩, _, rfl, _, rfl, 1, rfl, r, _, -1, _, rfl, rfl, SqL.of h1, hat, f, b, n, orb b ds j, rfl, hf.same s1, F, orb_wd F W j, fun H2 s2 => ?_⟩
  have h2 := s2 _ _ h1
  have e1 : nxt b (orb b ds j) = orb b ds (wayN b ds) := by rw [hj]; rfl
  rw [e1]
  refine one_index (SqL.of h2) (List.mem_map_of_mem iw.back) ?_
  refine ⟨_, rfl, _, rfl, _, rfl, r, _, rfl, SqL.of h2, fun t ht => ?_⟩
  rw [cutV_from, ← List.map_drop]
  have hlen : (way b ds).length ≤ 1000000 := by
    unfold way
    rw [List.length_map, orbs_length]
    exact Nat.le_trans (orbs_few F W iw.nd) F.sz
  have hst : steps b ds < (way b ds).length := List.idxOf_lt_length_iff.mpr (List.mem_map_of_mem iw.back)
  refine ⟨t, (way b ds).drop (steps b ds), rfl, upd_same, ?_, by rw [List.length_drop]; omega, fun l H3 s3 h3 h0 => ?_⟩
  · intro z
    have := congrArg List.length z
    rw [List.length_drop] at this
    simp at this
    omega
  · have s13 := ((s1.trans s2).new (o := .lst (((way b ds).drop (steps b ds)).map V.str)) ht)
    exact q l H3 (s13.trans s3) h3 (s13.free h0)
abbrev vStepsFrom : List Str := ["field", "word", "row"]
abbrev pStepsFrom : List Str := ["field", "word"]
theorem scStepsFrom : FnScope vStepsFrom pStepsFrom (defScope (top 45)) := ⟨rfl, rfl, rfl, by decide +kernel, rfl, by decide +kernel, by decide +kernel⟩
def spStepsFrom (C : Addr) : Sp := fun vs H Q _ => ∃ (f : Addr) (b n : Nat) (ds : List Nat), vs = [.ref f, .str (wd ds)] ∧ IsFld C H f b n ∧ Fld b n ∧ Wd b n ds ∧ ∀ H' : Hp, Same H H' → Q (.int (steps b ds : Nat)) H'
theorem okStepsFrom (T : TxtA K mg) : FnX P w K mg base CX0 false false 8 T.steps_from.f T.steps_from.fd pStepsFrom (spStepsFrom T.Field.C) := by
  refine funX0 (k := 7) T.steps_from.F scStepsFrom (fun vs H Q E ⟨f, b, n, ds, e, _⟩ => e ▸ rfl) fun cdv A outer s H vs Q E p c ⟨f, b, n, ds, e, hf, F, W, q⟩ => ?_
  subst e
  refine ⟨_, pss_cons (ps_set (i := 2) scStepsFrom.nd rfl (Or.inl rfl) (pe_callX (okWayOf T) (c.mono (by decide)) nogd rfl T.way_of.mg T.way_of.kp T.way_of.b at00 (pa_cons (pv 0) (pa_cons (pv 1) pa_nil))))
      (pss_one (ps_ret (pe_bm PySem.F.plainAttrs_list PySem.F.slot_list_index PySem.F.type_list_index mt_index (pv 2) (pa_cons (pe_callX (okNextWord T) (c.mono (by decide)) nogd rfl T.next_word.mg T.next_word.kp T.next_word.b at00 (pa_cons (pv 0) (pa_cons (pe_ix ix_list (pv 2) (pe_un un_neg pe_int) (fun _ _ => rfl)) pa_nil))) pa_nil)))), ?_⟩
  refine ⟨_, rfl, _, rfl, f, b, n, ds, rfl, hf, F, W, fun r H1 s1 h1 hr iw => ?_⟩
  obtain ⟨j, hj, hat⟩ := way_last iw
  refine ⟨_, rfl, .inl ⟨rfl, _, SqL.of h1⟩, _, rfl, _, rfl, 1, rfl, r, _, -1, _, rfl, rfl, SqL.of h1, hat, f, b, n, orb b ds j, rfl, hf.same s1, F, orb_wd F W j, fun H2 s2 => ?_⟩
  have h2 := s2 _ _ h1
  have e1 : nxt b (orb b ds j) = orb b ds (wayN b ds) := by rw [hj]; rfl
  rw [e1]
  exact one_index (SqL.of h2) (List.mem_map_of_mem iw.back) (q H2 (s1.trans s2))
end
end Spf
end
section
set_option maxHeartbeats 4000000
/-! The program: names, wishes, entries, what holds. -/
namespace Spf
open PySem PySem.Spec PyProof.Rows L2 L2H HotX
/-- a name that is_name takes -/
structure NameOk (x : Str) : Prop where
  l1 : 1 ≤ x.cps.size
  l8 : x.cps.size ≤ 8
  first : ∃ c, x.cps[0]? = some c ∧ c ∈ ("abcdefghijklmnopqrstuvwxyz" : Str).cps.toList
  all : ∀ (i c : Nat), x.cps[i]? = some c → c ∈ ("abcdefghijklmnopqrstuvwxyz" : Str).cps.toList ∨ c ∈ ("0123456789" : Str).cps.toList
def nameB (x : Str) : Bool := decide (1 ≤ x.cps.size) && decide (x.cps.size ≤ 8) && (match x.cps[0]? with
  | some c => decide (c ∈ ("abcdefghijklmnopqrstuvwxyz" : Str).cps.toList)
  | none => false) && x.cps.toList.all fun c => decide (c ∈ ("abcdefghijklmnopqrstuvwxyz" : Str).cps.toList) || decide (c ∈ ("0123456789" : Str).cps.toList)
theorem nameB_ok {x : Str} (h : nameB x = true) : NameOk x := by
  unfold nameB at h
  simp only [Bool.and_eq_true, decide_eq_true_eq] at h
  obtain ⟨⟨⟨h1, h2⟩, h3⟩, h4⟩ := h
  refine ⟨h1, h2, ?_, fun i c hc => ?_⟩
  · cases e : x.cps[0]? with
    | none => rw [e] at h3; cases h3
    | some c => rw [e] at h3; exact ⟨c, rfl, of_decide_eq_true h3⟩
  · have := List.all_eq_true.mp h4 c (by rw [Array.mem_toList_iff]; exact Array.mem_of_getElem? hc)
    simpa using this
theorem wish_len2 (w : Wish) : 2 ≤ (wishV w).length ∧ (wishV w).length ≤ 3 := by cases w <;> simp [wishV]
theorem ok_a : NameOk "a" := nameB_ok (by decide +kernel)
theorem ok_b2 : NameOk "b2" := nameB_ok (by decide +kernel)
theorem ok_old : NameOk "old" := nameB_ok (by decide +kernel)
theorem ok_none : NameOk "none" := nameB_ok (by decide +kernel)
theorem tkN {P : Program} {w : World} {K : PySem.W.Frag} {mg : Str → Option Value} {base : Heap} {N : List Str} {qual : Str} {scope : Scope} {f : Addr} {cd : Value} {A : Around} {outer : List Env} {s : Shared} {H : Hp} {E : XK} {h : Bool} {p : Addr × Obj} :
    L2N.Takes (cxX (L2N.CX P w) P w K mg base N qual scope f cd A outer s H E h p) (fun cls d _ H => E cls d H) := L2N.takes_of rfl rfl rfl rfl
theorem own0_mk {X : Cx} {x : Str} {C : Addr} {p pos : Pos} (T : Own0 X.K X.mg x C) (hg : Gl X x) (hdb : (x == ("__debug__" : Str)) = false := by decide) : L2N.PMk X (.Call (.Name x p) [] [] pos) (fun _ H Q => Q (.ref C) none H) := by
  obtain ⟨B, ni, ii, bm, F, q⟩ := T.F
  exact pmk_own0 F q T.gC T.kC (raises_own T.exC T.tyC) hg hdb
/-! ### a pair of the book: its field and its word -/
def IsVal (C : Addr) (G : Hp) (v : Addr) (e : Ent) : Prop := ∃ f, G v = some (.tup [.ref f, .str (wd e.ds)]) ∧ IsFld C G f e.b e.n ∧ EntOk e
def IsTabK (C : Addr) (G : Hp) (kv : Key × V) (te : Str × Ent) : Prop := kv.1 = Sum.inr te.1 ∧ ∃ v, kv.2 = .ref v ∧ IsVal C G v te.2
theorem IsVal.mono {C : Addr} {G G' : Hp} {v : Addr} {e : Ent} (s : Same G G') : IsVal C G v e → IsVal C G' v e := fun ⟨f, h1, h2, h3⟩ => ⟨f, s _ _ h1, h2.same s, h3⟩
theorem tab_val {C : Addr} {G : Hp} {t : Str} : ∀ {kvs : List (Key × V)} {hd : Held}, Paired (IsTabK C G) kvs hd → ∀ e, look hd t = some e → ∃ v, valV kvs (Sum.inr t) = some (.ref v) ∧ IsVal C G v e
  | [], [], _, e, h => by cases h
  | (k, v) :: kvs, (u, f) :: hd, .cons ⟨h1, p, h2, h3⟩ r, e, h => by
    have h1' : k = Sum.inr u := h1
    have h2' : v = .ref p := h2
    subst h1' h2'
    by_cases hu : u = t
    · subst hu
      have : f = e := by simpa [look] using h
      subst this
      exact ⟨p, by simp [valV], h3⟩
    · have ha : look ((u, f) :: hd) t = look hd t := by simp [look, hu]
      have hb : valV ((Sum.inr u, V.ref p) :: kvs) (Sum.inr t : Key) = valV kvs (Sum.inr t : Key) := by
        have : ¬ ((Sum.inr u : Key) = Sum.inr t) := fun z => hu (Sum.inr.inj z)
        simp [valV, this]
      rw [ha] at h
      rw [hb]
      exact tab_val r e h
/-- a loop over enumerate of a tuple -/
theorem for_enumT {K : PySem.W.Frag} {a : Addr} {xs : List V} {g : TG} {tb : TS} {D : Ends} {σ : L2.St} {H : Hp} (Pv : Nat → L2.St → Hp → Prop) (h0 : Pv 0 σ H) (hq : ∀ i σ H, Pv i σ H → SqT K H a xs)
    (hs : ∀ (i : Nat) (x : V) (T : Addr) (σ : L2.St) (H : Hp), xs[i]? = some x → Pv i σ H → H T = none → g (.ref T) σ (upd H T (.tup [.int (i : Nat), x])) fun σ2 H2 => tb { D with nx := Pv (i + 1), ct := Pv (i + 1), bk := D.nx } σ2 H2) (hd : ∀ σ H, Pv xs.length σ H → D.nx σ H) :
    ∃ W : Nat → Nat → L2.St → Hp → Prop, (∃ m, W 0 m σ H) ∧ ∀ i m σ H, W i m σ H →
      ((IteT K a).stop i H ∧ D.nx σ H) ∨ ((IteT K a).go i H ∧ ∃ N : L2.St → Hp → Prop, (∀ σ' H', N σ' H' → ∃ m', m' < m ∧ W (i + 1) m' σ' H') ∧ ∀ v H', (IteT K a).yld i H v H' → g v σ H' fun σ2 H2 => tb { D with nx := N, ct := N, bk := D.nx } σ2 H2) := by
  refine ⟨fun i m σ H => m = xs.length - i ∧ i ≤ xs.length ∧ Pv i σ H, ⟨xs.length, rfl, Nat.zero_le _, h0⟩, ?_⟩
  rintro i m σ H ⟨rfl, hi, p⟩
  have qx := hq i σ H p
  by_cases hlt : i < xs.length
  · have hx : xs[i]? = some xs[i] := List.getElem?_eq_getElem hlt
    refine .inr ⟨⟨xs, _, qx, hx⟩, Pv (i + 1), fun σ' H' p' => ⟨xs.length - (i + 1), by omega, rfl, hlt, p'⟩, fun v H' y => ?_⟩
    obtain ⟨T, x', rfl, hT, rfl, f1⟩ := y
    exact hs i x' T σ H (f1 xs qx) p hT
  · have e : i = xs.length := by omega
    subst e
    exact .inl ⟨⟨xs, qx, rfl⟩, hd σ H p⟩
section
variable {P : Program} {w : World} {K : PySem.W.Frag} {mg : Str → Option Value} {base : Heap} {h : Bool}
/-! ### is_name, check_name -/
abbrev vIsName : List Str := ["value", "sign"]
abbrev pIsName : List Str := ["value"]
theorem scIsName : FnScope vIsName pIsName (defScope (top 24)) := ⟨rfl, rfl, rfl, by decide +kernel, rfl, by decide +kernel, by decide +kernel⟩
def spIsName : Sp := fun vs H Q _ => ∃ x : Str, vs = [.str x] ∧ NameOk x ∧ ∀ H', Same H H' → Q (.bl true) H'
theorem okIsName (T : TxtA K mg) : FnX P w K mg base CX0 false false 1 T.is_name.f T.is_name.fd pIsName spIsName := by
  refine funX0 (k := 0) T.is_name.F scIsName (fun vs H Q E ⟨x, e, _⟩ => e ▸ rfl) fun cdv A outer s H vs Q E p c ⟨x, e, ok, q⟩ => ?_
  subst e
  have l1 := ok.l1
  have l8 := ok.l8
  refine ⟨_, pss_cons (ps_if (PW.pt (pw_or (pt_not (pt_val (pe_callB call_isi (by rfl) T.isinstance (by decide +kernel) (pa_cons (pv 0) (pa_cons (pe_tyB "str" (by rfl) T.str (by decide +kernel)) pa_nil))))) (pw_or1 (pt_not (pt_chain op_le op_le pe_int (pe_callB call_len_str (by rfl) T.len PySem.boot_len (pa_cons (pv 0) pa_nil)) (pe_glob (v := .int 8) rfl T.LONGEST_NAME ⟨_, rfl⟩)))))) (pss_one (ps_ret pe_bl)) pss_nil)
      (pss_one (ps_ret (pe_and (pe_cmpR op_in_sign (pe_ix ix_str (pv 0) pe_int (fun _ _ => rfl)) (pe_glob (v := .str "abcdefghijklmnopqrstuvwxyz") rfl T.LETTERS ⟨_, rfl⟩) (by rfl)) (pe_one (pe_callB (cr_all rfl) (by rfl) T.all (by decide +kernel) (pa_cons (pe_lc rfl (own := [("sign", 1)]) (g := gName 1) scIsName.nd (pi_str (pv 0)) (blkOk_by (N := vIsName) (sc := defScope (top 24)) (by decide +kernel)) (fun _ _ _ _ _ => (pg_name (i := 1) scIsName.nd rfl (Or.inl rfl))) (fun _ _ _ _ _ => pts_nil) (fun _ _ _ _ _ => (pe_or (pe_cmpR op_in_sign (pv 1) (pe_glob (v := .str "abcdefghijklmnopqrstuvwxyz") rfl T.LETTERS ⟨_, rfl⟩) (by rfl)) (pe_one (pe_cmpR op_in_sign (pv 1) (pe_glob (v := .str "0123456789") rfl T.DIGITS ⟨_, rfl⟩) (by rfl)))))) pa_nil)))))), ?_⟩
  refine ⟨_, rfl, .str x, .ty "str", .type "str", .type "str", true, rfl, .ty _, .base (.str _), kit_ty (by decide +kernel), _, rfl, ifF rfl ?_⟩
  refine ⟨_, rfl, _, rfl, szL (show x.cps.size ≤ 1000000 by omega), _, _, rfl, rfl, _, rfl, ?_⟩
  refine ifT (decide_eq_true (show (1 : Int) ≤ (x.cps.size : Nat) by omega)) ⟨_, _, rfl, rfl, _, rfl, ifF ?_ ?_⟩
  · rw [decide_eq_true (show ((x.length : Nat) : Int) ≤ 8 from by show ((x.cps.size : Nat) : Int) ≤ 8; omega)]; rfl
  obtain ⟨c0, h0, hin⟩ := ok.first
  refine ⟨_, rfl, _, _, _, rfl, rfl, szL (show x.cps.size ≤ 1000000 by omega), atI_nat (j := 0) (by rw [Array.getElem?_toList]; exact h0), c0, _, rfl, rfl, _, rfl, ifT (decide_eq_true hin) ?_⟩
  refine ⟨_, rfl, _, rfl, fun D hD => lc_mapStr (ys := List.replicate x.cps.size (V.bl true)) hD (by simp) (by omega) ?_ fun H2 s2 h2 => ?_⟩
  · intro i cc H3 Qe hc s3 hq
    have hi : i < x.cps.size := (Array.getElem?_eq_some_iff.mp hc).1
    refine ⟨rfl, rfl, _, rfl, cc, _, rfl, rfl, _, rfl, ?_⟩
    have fin := hq (.bl true) H3 (by rw [List.getElem?_replicate, if_pos hi]) (Same.refl _)
    refine ite2 (fun z => fin) (fun z => ?_)
    have hz : ¬ cc ∈ ("abcdefghijklmnopqrstuvwxyz" : Str).cps.toList := of_decide_eq_false (by simpa using z)
    refine ⟨_, rfl, cc, _, rfl, rfl, ?_⟩
    rw [decide_eq_true ((ok.all i cc hc).resolve_left hz)]
    exact fin
  · refine ⟨D, List.replicate x.cps.size true, rfl, SqL.of (by rw [h2, List.map_replicate]), ?_⟩
    have : (List.replicate x.cps.size true).all id = true := by simp
    rw [this]
    exact q H2 s2
abbrev vCheckName : List Str := ["value"]
abbrev pCheckName : List Str := ["value"]
theorem scCheckName : FnScope vCheckName pCheckName (defScope (top 25)) := ⟨rfl, rfl, rfl, by decide +kernel, rfl, by decide +kernel, by decide +kernel⟩
def spCheckName : Sp := fun vs H Q _ => ∃ x : Str, vs = [.str x] ∧ NameOk x ∧ ∀ H', Same H H' → Q .non H'
theorem okCheckName (T : TxtA K mg) : FnX P w K mg base CX0 false false 2 T.check_name.f T.check_name.fd pCheckName spCheckName := by
  refine funX0 (k := 1) T.check_name.F scCheckName (fun vs H Q E ⟨x, e, _⟩ => e ▸ rfl) fun cdv A outer s H vs Q E p c ⟨x, e, ok, q⟩ => ?_
  subst e
  refine ⟨_, pss_one (ps_if (pt_not (pt_val (pe_callX (okIsName T) (c.mono (by decide)) nogd rfl T.is_name.mg T.is_name.kp T.is_name.b at00 (pa_cons (pv 0) pa_nil)))) (pss_one ps_never) pss_nil), ?_⟩
  exact ⟨_, rfl, x, rfl, ok, fun H1 s1 => ⟨_, rfl, ifF rfl (q H1 s1)⟩⟩
/-! ### is_wish -/
abbrev vIsWish : List Str := ["value"]
abbrev pIsWish : List Str := ["value"]
theorem scIsWish : FnScope vIsWish pIsWish (defScope (top 50)) := ⟨rfl, rfl, rfl, by decide +kernel, rfl, by decide +kernel, by decide +kernel⟩
def spIsWish : Sp := fun vs H Q _ => ∃ (p : Addr) (w : Wish), vs = [.ref p] ∧ H p = some (.tup (wishV w)) ∧ w.sane ∧ (∀ t ∈ w.tags, NameOk t) ∧ ∀ H', Same H H' → Q (.bl true) H'
theorem inV2 (a b x : Str) : inV (.str x) [.str a, .str b] = (decide (a = x) || decide (b = x)) := by
  show ((a == x) || ((b == x) || false)) = _
  rw [Bool.or_false]
  by_cases h1 : a = x <;> by_cases h2 : b = x <;> simp [h1, h2]
theorem okIsWish (T : TxtA K mg) : FnX P w K mg base CX0 false false 2 T.is_wish.f T.is_wish.fd pIsWish spIsWish := by
  refine funX0 (k := 1) T.is_wish.F scIsWish (fun vs H Q E ⟨p, w, e, _⟩ => e ▸ rfl) fun cdv A outer s H vs Q E p c ⟨pw, w, e, hp, hsane, hok, q⟩ => ?_
  subst e
  have tp := SqT.of (K := K) hp
  refine ⟨_, pss_cons (ps_if (PW.pt (pw_or (pt_not (pt_val (pe_callB call_isi (by rfl) T.isinstance (by decide +kernel) (pa_cons (pv 0) (pa_cons (pe_tyB "tuple" (by rfl) T.tuple (by decide +kernel)) pa_nil))))) (pw_or (pt_cmpR op_lt (pe_callB call_len_seq (by rfl) T.len PySem.boot_len (pa_cons (pv 0) pa_nil)) pe_int (nomark _)) (pw_or1 (pt_not (pt_val (pe_callX (okIsName T) (c.mono (by decide)) nogd rfl T.is_name.mg T.is_name.kp T.is_name.b at00 (pa_cons (pe_ix ix_tup (pv 0) pe_int (fun _ _ => rfl)) pa_nil)))))))) (pss_one (ps_ret pe_bl)) pss_nil)
      (pss_cons (ps_if (pt_cmpR op_eq (pe_ix ix_tup (pv 0) pe_int (fun _ _ => rfl)) pe_str (nomark _)) (pss_one (ps_ret (pe_cmpR op_eq (pe_callB call_len_seq (by rfl) T.len PySem.boot_len (pa_cons (pv 0) pa_nil)) pe_int (nomark _)))) pss_nil)
      (pss_cons (ps_if (pt_cmpR op_ne (pe_callB call_len_seq (by rfl) T.len PySem.boot_len (pa_cons (pv 0) pa_nil)) pe_int (nomark _)) (pss_one (ps_ret pe_bl)) pss_nil)
      (pss_cons (ps_if (pt_cmpR op_in_seq (pe_ix ix_tup (pv 0) pe_int (fun _ _ => rfl)) (pe_tup (pa_cons pe_str (pa_cons pe_str pa_nil))) (by rfl)) (pss_one (ps_ret (pe_callX (okIsName T) (c.mono (by decide)) nogd rfl T.is_name.mg T.is_name.kp T.is_name.b at00 (pa_cons (pe_ix ix_tup (pv 0) pe_int (fun _ _ => rfl)) pa_nil)))) pss_nil)
      (pss_one (ps_ret (pe_and (pe_cmpR op_in_seq (pe_ix ix_tup (pv 0) pe_int (fun _ _ => rfl)) (pe_tup (pa_cons pe_str (pa_cons pe_str pa_nil))) (by rfl)) (pe_and (pe_callX (okIsInteger T) (c.mono (by decide)) nogd rfl T.is_integer.mg T.is_integer.kp T.is_integer.b at00 (pa_cons (pe_ix ix_tup (pv 0) pe_int (fun _ _ => rfl)) pa_nil)) (pe_one (pe_cmpR op_ge (pe_ix ix_tup (pv 0) pe_int (fun _ _ => rfl)) pe_int (nomark _)))))))))), ?_⟩
  have first : ∀ (t : Str) (v : V) (rest : List V), wishV w = v :: .str t :: rest → t ∈ w.tags → True := fun _ _ _ _ _ => trivial
  refine ⟨_, rfl, .ref pw, .ty "tuple", .type "tuple", .type "tuple", true, rfl, .ty _, .base (.tup hp), kit_ty (by decide +kernel), _, rfl, ifF rfl ?_⟩
  have wl := wish_len2 w
  refine ⟨_, rfl, pw, _, rfl, .inr tp, _, _, rfl, rfl, _, rfl, ifF (decide_eq_false (by omega)) ?_⟩
  cases w with
  | still t =>
    refine ⟨_, rfl, pw, _, _, _, rfl, rfl, tp, rfl, t, rfl, hok t (by simp [Wish.tags]), fun H1 s1 => ⟨_, rfl, ifF rfl ?_⟩⟩
    have tp1 := s1.seqT tp
    refine ⟨_, rfl, pw, _, _, _, rfl, rfl, tp1, rfl, rfl, _, rfl, ifT (by decide +kernel) ?_⟩
    exact ⟨_, rfl, pw, _, rfl, .inr tp1, rfl, q H1 s1⟩
  | steps t k =>
    refine ⟨_, rfl, pw, _, _, _, rfl, rfl, tp, rfl, t, rfl, hok t (by simp [Wish.tags]), fun H1 s1 => ⟨_, rfl, ifF rfl ?_⟩⟩
    have tp1 := s1.seqT tp
    refine ⟨_, rfl, pw, _, _, _, rfl, rfl, tp1, rfl, rfl, _, rfl, ifF (by decide +kernel) ?_⟩
    refine ⟨_, rfl, pw, _, rfl, .inr tp1, rfl, _, rfl, ifF rfl ?_⟩
    refine ⟨_, rfl, pw, _, _, _, rfl, rfl, tp1, rfl, szL (by show 2 ≤ 1000000; decide), fun x1 hx1 => ?_⟩
    have s2 := s1.new (o := .tup [.str "alike", .str "ends"]) hx1
    refine ⟨x1, _, rfl, .inr (SqT.of upd_same), rfl, rfl, _, rfl, ifF (by decide +kernel) ?_⟩
    refine ⟨_, rfl, pw, _, _, _, rfl, rfl, s2.seqT tp, rfl, szL (by show 2 ≤ 1000000; decide), fun x2 hx2 => ?_⟩
    have s3 := s2.new (o := .tup [.str "steps", .str "ring"]) hx2
    refine ⟨x2, _, rfl, .inr (SqT.of upd_same), rfl, rfl, _, rfl, ifT (by decide +kernel) ?_⟩
    refine ⟨_, rfl, pw, _, _, _, rfl, rfl, s3.seqT tp, rfl, .inl ⟨k, rfl, _, rfl, ifT rfl ?_⟩⟩
    refine ⟨_, rfl, pw, _, _, _, rfl, rfl, s3.seqT tp, rfl, _, _, rfl, rfl, ?_⟩
    have ek : decide ((0 : Int) ≤ k) = true := decide_eq_true hsane.1
    show Q (.bl (decide ((0 : Int) ≤ k))) _
    rw [ek]
    exact q _ s3
  | ring t k =>
    refine ⟨_, rfl, pw, _, _, _, rfl, rfl, tp, rfl, t, rfl, hok t (by simp [Wish.tags]), fun H1 s1 => ⟨_, rfl, ifF rfl ?_⟩⟩
    have tp1 := s1.seqT tp
    refine ⟨_, rfl, pw, _, _, _, rfl, rfl, tp1, rfl, rfl, _, rfl, ifF (by decide +kernel) ?_⟩
    refine ⟨_, rfl, pw, _, rfl, .inr tp1, rfl, _, rfl, ifF rfl ?_⟩
    refine ⟨_, rfl, pw, _, _, _, rfl, rfl, tp1, rfl, szL (by show 2 ≤ 1000000; decide), fun x1 hx1 => ?_⟩
    have s2 := s1.new (o := .tup [.str "alike", .str "ends"]) hx1
    refine ⟨x1, _, rfl, .inr (SqT.of upd_same), rfl, rfl, _, rfl, ifF (by decide +kernel) ?_⟩
    refine ⟨_, rfl, pw, _, _, _, rfl, rfl, s2.seqT tp, rfl, szL (by show 2 ≤ 1000000; decide), fun x2 hx2 => ?_⟩
    have s3 := s2.new (o := .tup [.str "steps", .str "ring"]) hx2
    refine ⟨x2, _, rfl, .inr (SqT.of upd_same), rfl, rfl, _, rfl, ifT (by decide +kernel) ?_⟩
    refine ⟨_, rfl, pw, _, _, _, rfl, rfl, s3.seqT tp, rfl, .inl ⟨k, rfl, _, rfl, ifT rfl ?_⟩⟩
    refine ⟨_, rfl, pw, _, _, _, rfl, rfl, s3.seqT tp, rfl, _, _, rfl, rfl, ?_⟩
    have ek : decide ((0 : Int) ≤ k) = true := decide_eq_true hsane.1
    show Q (.bl (decide ((0 : Int) ≤ k))) _
    rw [ek]
    exact q _ s3
  | alike t u =>
    refine ⟨_, rfl, pw, _, _, _, rfl, rfl, tp, rfl, t, rfl, hok t (by simp [Wish.tags]), fun H1 s1 => ⟨_, rfl, ifF rfl ?_⟩⟩
    have tp1 := s1.seqT tp
    refine ⟨_, rfl, pw, _, _, _, rfl, rfl, tp1, rfl, rfl, _, rfl, ifF (by decide +kernel) ?_⟩
    refine ⟨_, rfl, pw, _, rfl, .inr tp1, rfl, _, rfl, ifF rfl ?_⟩
    refine ⟨_, rfl, pw, _, _, _, rfl, rfl, tp1, rfl, szL (by show 2 ≤ 1000000; decide), fun x1 hx1 => ?_⟩
    have s2 := s1.new (o := .tup [.str "alike", .str "ends"]) hx1
    refine ⟨x1, _, rfl, .inr (SqT.of upd_same), rfl, rfl, _, rfl, ifT (by decide +kernel) ?_⟩
    exact ⟨_, rfl, pw, _, _, _, rfl, rfl, s2.seqT tp, rfl, u, rfl, hok u (by simp [Wish.tags]), fun H3 s3 => q H3 (s2.trans s3)⟩
  | ends t u =>
    refine ⟨_, rfl, pw, _, _, _, rfl, rfl, tp, rfl, t, rfl, hok t (by simp [Wish.tags]), fun H1 s1 => ⟨_, rfl, ifF rfl ?_⟩⟩
    have tp1 := s1.seqT tp
    refine ⟨_, rfl, pw, _, _, _, rfl, rfl, tp1, rfl, rfl, _, rfl, ifF (by decide +kernel) ?_⟩
    refine ⟨_, rfl, pw, _, rfl, .inr tp1, rfl, _, rfl, ifF rfl ?_⟩
    refine ⟨_, rfl, pw, _, _, _, rfl, rfl, tp1, rfl, szL (by show 2 ≤ 1000000; decide), fun x1 hx1 => ?_⟩
    have s2 := s1.new (o := .tup [.str "alike", .str "ends"]) hx1
    refine ⟨x1, _, rfl, .inr (SqT.of upd_same), rfl, rfl, _, rfl, ifT (by decide +kernel) ?_⟩
    exact ⟨_, rfl, pw, _, _, _, rfl, rfl, s2.seqT tp, rfl, u, rfl, hok u (by simp [Wish.tags]), fun H3 s3 => q H3 (s2.trans s3)⟩
/-! ### is_entry -/
abbrev vIsEntry : List Str := ["value"]
abbrev pIsEntry : List Str := ["value"]
theorem scIsEntry : FnScope vIsEntry pIsEntry (defScope (top 51)) := ⟨rfl, rfl, rfl, by decide +kernel, rfl, by decide +kernel, by decide +kernel⟩
def spIsEntry (C : Addr) : Sp := fun vs H Q _ => ∃ (v : Addr) (e : Ent), vs = [.ref v] ∧ IsVal C H v e ∧ ∀ H', Same H H' → Q (.bl true) H'
theorem okIsEntry (T : TxtA K mg) : FnX P w K mg base CX0 false false 4 T.is_entry.f T.is_entry.fd pIsEntry (spIsEntry T.Field.C) := by
  refine funX0 (k := 3) T.is_entry.F scIsEntry (fun vs H Q E ⟨v, e, eq, _⟩ => eq ▸ rfl) fun cdv A outer s H vs Q E p c ⟨v, e, eq, ⟨f, hv, hf, ok⟩, q⟩ => ?_
  subst eq
  have tp := SqT.of (K := K) hv
  obtain ⟨dx, hdx⟩ := id hf
  refine ⟨_, pss_cons (ps_if (PW.pt (pw_or (pt_not (pt_val (pe_callB call_isi (by rfl) T.isinstance (by decide +kernel) (pa_cons (pv 0) (pa_cons (pe_tyB "tuple" (by rfl) T.tuple (by decide +kernel)) pa_nil))))) (pw_or (pt_cmpR op_ne (pe_callB call_len_seq (by rfl) T.len PySem.boot_len (pa_cons (pv 0) pa_nil)) pe_int (nomark _)) (pw_or1 (pt_not (pt_val (pe_callB call_isi (by rfl) T.isinstance (by decide +kernel) (pa_cons (pe_ix ix_tup (pv 0) pe_int (fun _ _ => rfl)) (pa_cons (pe_glob (v := .ref T.Field.C) rfl T.Field.mg rfl) pa_nil))))))))) (pss_one (ps_ret pe_bl)) pss_nil)
      (pss_one (ps_ret (pe_callX (okIsSpelled T) (c.mono (by decide)) nogd rfl T.is_spelled.mg T.is_spelled.kp T.is_spelled.b at00 (pa_cons (pe_ix ix_tup (pv 0) pe_int (fun _ _ => rfl)) (pa_cons (pe_ix ix_tup (pv 0) pe_int (fun _ _ => rfl)) pa_nil))))), ?_⟩
  refine ⟨_, rfl, .ref v, .ty "tuple", .type "tuple", .type "tuple", true, rfl, .ty _, .base (.tup hv), kit_ty (by decide +kernel), _, rfl, ifF rfl ?_⟩
  refine ⟨_, rfl, v, _, rfl, .inr tp, rfl, _, rfl, ifF rfl ?_⟩
  refine ⟨_, rfl, v, _, _, _, rfl, rfl, tp, rfl, .ref f, .ref T.Field.C, .ref T.Field.C, .ref T.Field.C, true, rfl, .own _, .base (.ins hdx T.Field.cl T.fIns.ha T.fIns.hn T.fIns.ht T.fIns.hm), T.fIns.self, _, rfl, ifF rfl ?_⟩
  exact ⟨_, rfl, v, _, _, _, rfl, rfl, tp, rfl, _, rfl, v, _, _, _, rfl, rfl, tp, rfl, f, e.b, e.n, e.ds, rfl, hf, ok.F, ok.W, q⟩
/-! ### holds -/
abbrev vHolds : List Str := ["table", "wish", "field", "word", "ground", "other"]
abbrev pHolds : List Str := ["table", "wish"]
theorem scHolds : FnScope vHolds pHolds (defScope (top 52)) := ⟨rfl, rfl, rfl, by decide +kernel, rfl, by decide +kernel, by decide +kernel⟩
def spHolds (C : Addr) : Sp := fun vs H Q _ => ∃ (G : Hp) (t p : Addr) (kvs : List (Key × V)) (hd : Held) (w : Wish), vs = [.ref t, .ref p] ∧ Same G H ∧ H t = some (.dK kvs) ∧ Paired (IsTabK C G) kvs hd ∧ IsWish G p w ∧ Named hd w ∧ ∀ H', Same H H' → Q (.bl (keeps hd w)) H'
theorem okHolds (T : TxtA K mg) : FnX P w K mg base CX0 false false 9 T.holds.f T.holds.fd pHolds (spHolds T.Field.C) := by
  refine funX0 (k := 8) T.holds.F scHolds (fun vs H Q E ⟨G, t, p, kvs, hd, w, e, _⟩ => e ▸ rfl) fun cdv A outer s H vs Q E p c ⟨G, tt, pw, kvs, hd, w, e, le, htt, ptab, iw, nm, q⟩ => ?_
  subst e
  refine ⟨_, pss_cons (ps_asg (pe_dget c.u1 (pv 0) (pe_ix ix_tup (pv 1) pe_int (fun _ _ => rfl)) (fun _ _ => rfl)) (pg_tupX c.md (pgs_cons (pg_name (i := 2) scHolds.nd rfl (Or.inl rfl)) (pgs_cons (pg_name (i := 3) scHolds.nd rfl (Or.inl rfl)) pgs_nil))))
      (pss_cons (ps_if (pt_cmpR op_eq (pe_ix ix_tup (pv 1) pe_int (fun _ _ => rfl)) pe_str (nomark _)) (pss_one (ps_ret (pe_cmpR op_eq (pe_callX (okNextWord T) (c.mono (by decide)) nogd rfl T.next_word.mg T.next_word.kp T.next_word.b at00 (pa_cons (pv 2) (pa_cons (pv 3) pa_nil))) (pv 3) (nomark _)))) pss_nil)
      (pss_cons (ps_if (pt_cmpR op_eq (pe_ix ix_tup (pv 1) pe_int (fun _ _ => rfl)) pe_str (nomark _)) (pss_one (ps_ret (pe_cmpR op_le (pe_callX (okStepsFrom T) (c.mono (by decide)) nogd rfl T.steps_from.mg T.steps_from.kp T.steps_from.b at00 (pa_cons (pv 2) (pa_cons (pv 3) pa_nil))) (pe_ix ix_tup (pv 1) pe_int (fun _ _ => rfl)) (nomark _)))) pss_nil)
      (pss_cons (ps_if (pt_cmpR op_eq (pe_ix ix_tup (pv 1) pe_int (fun _ _ => rfl)) pe_str (nomark _)) (pss_one (ps_ret (pe_cmpR op_eq (pe_callB call_len_seq (by rfl) T.len PySem.boot_len (pa_cons (pe_callX (okRingFrom T) (c.mono (by decide)) nogd rfl T.ring_from.mg T.ring_from.kp T.ring_from.b at00 (pa_cons (pv 2) (pa_cons (pv 3) pa_nil))) pa_nil)) (pe_ix ix_tup (pv 1) pe_int (fun _ _ => rfl)) (nomark _)))) pss_nil)
      (pss_cons (ps_asg (pe_dget c.u1 (pv 0) (pe_ix ix_tup (pv 1) pe_int (fun _ _ => rfl)) (fun _ _ => rfl)) (pg_tupX c.md (pgs_cons (pg_name (i := 4) scHolds.nd rfl (Or.inl rfl)) (pgs_cons (pg_name (i := 5) scHolds.nd rfl (Or.inl rfl)) pgs_nil))))
      (pss_cons (ps_if (pt_cmpR (op_neO ⟨T.fEq.mt.at_, T.fEq.mt.fn, T.fEq.fin⟩ T.fNe T.fIns.hm (okFieldEq T) (c.mono (by decide)) nogd T.fEq.b) (pv 2) (pv 4) (nomark _)) (pss_one (ps_ret pe_bl)) pss_nil)
      (pss_cons (ps_if (pt_cmpR op_eq (pe_ix ix_tup (pv 1) pe_int (fun _ _ => rfl)) pe_str (nomark _)) (pss_one (ps_ret (pe_cmpR (op_eqD c.rm.units) (pe_callX (okSpreadsOf T) (c.mono (by decide)) nogd rfl T.spreads_of.mg T.spreads_of.kp T.spreads_of.b at00 (pa_cons (pv 3) pa_nil)) (pe_callX (okSpreadsOf T) (c.mono (by decide)) nogd rfl T.spreads_of.mg T.spreads_of.kp T.spreads_of.b at00 (pa_cons (pv 5) pa_nil)) (nomark _)))) pss_nil)
      (pss_one (ps_ret (pe_cmpR (op_eqD c.rm.units) (pe_callX (okRingFrom T) (c.mono (by decide)) nogd rfl T.ring_from.mg T.ring_from.kp T.ring_from.b at00 (pa_cons (pv 2) (pa_cons (pv 3) pa_nil))) (pe_callX (okRingFrom T) (c.mono (by decide)) nogd rfl T.ring_from.mg T.ring_from.kp T.ring_from.b at00 (pa_cons (pv 2) (pa_cons (pv 5) pa_nil))) (nomark _)))))))))), ?_⟩
  have hn : ∀ t ∈ w.tags, ∃ (v : Addr) (e : Ent), look hd t = some e ∧ valV kvs (Sum.inr t) = some (.ref v) ∧ IsVal T.Field.C G v e := fun t ht => by
    have hs := nm t ht
    cases hl : look hd t with
    | none => rw [hl] at hs; cases hs
    | some e =>
      obtain ⟨v, h1, h2⟩ := tab_val ptab e hl
      exact ⟨v, e, rfl, h1, h2⟩
  have tp := SqT.of (K := K) (le _ _ iw.1)
  have dg : ∀ (H' : Hp) (t : Str) (p : Addr), Same H H' → valV kvs (Sum.inr t) = some (.ref p) → DGet H' tt (.str t) (some (.ref p)) := fun H' t p s hv => by
    have := DGet.k (k := Sum.inr t) (s _ _ htt)
    rw [hv] at this
    exact this
  cases w with
  | still t =>
    obtain ⟨pe, ⟨b, n, ds⟩, hl, hv, f, he, hf0, ok⟩ := hn t (by simp [Wish.tags])
    have hf := hf0.same le
    refine ⟨_, rfl, _, rfl, pw, _, _, _, rfl, rfl, tp, rfl, tt, _, rfl, dg H t pe (Same.refl _) hv, pe, _, rfl, SqT.of (le _ _ he), rfl, _, _, rfl, _, _, rfl, rfl, ?_⟩
    refine ⟨_, rfl, pw, _, _, _, rfl, rfl, tp, rfl, rfl, _, rfl, ifT (by decide +kernel) ?_⟩
    refine ⟨_, rfl, _, rfl, f, b, n, ds, rfl, hf, ok.F, ok.W, fun H' s' => ⟨_, rfl, rfl, ?_⟩⟩
    have e1 : decide (V.str (wd (nxt b ds)) = V.str (wd ds)) = decide (wd (nxt b ds) = wd ds) := by simp
    rw [e1]
    have := q H' s'
    simp only [keeps, hl] at this
    exact this
  | steps t k =>
    obtain ⟨pe, ⟨b, n, ds⟩, hl, hv, f, he, hf0, ok⟩ := hn t (by simp [Wish.tags])
    have hf := hf0.same le
    refine ⟨_, rfl, _, rfl, pw, _, _, _, rfl, rfl, tp, rfl, tt, _, rfl, dg H t pe (Same.refl _) hv, pe, _, rfl, SqT.of (le _ _ he), rfl, _, _, rfl, _, _, rfl, rfl, ?_⟩
    refine ⟨_, rfl, pw, _, _, _, rfl, rfl, tp, rfl, rfl, _, rfl, ifF (by decide +kernel) ?_⟩
    refine ⟨_, rfl, pw, _, _, _, rfl, rfl, tp, rfl, rfl, _, rfl, ifT (by decide +kernel) ?_⟩
    refine ⟨_, rfl, _, rfl, f, b, n, ds, rfl, hf, ok.F, ok.W, fun H' s' => ⟨_, rfl, pw, _, _, _, rfl, rfl, s'.seqT tp, rfl, _, _, rfl, rfl, ?_⟩⟩
    have := q H' s'
    simp only [keeps, hl] at this
    exact this
  | ring t k =>
    obtain ⟨pe, ⟨b, n, ds⟩, hl, hv, f, he, hf0, ok⟩ := hn t (by simp [Wish.tags])
    have hf := hf0.same le
    refine ⟨_, rfl, _, rfl, pw, _, _, _, rfl, rfl, tp, rfl, tt, _, rfl, dg H t pe (Same.refl _) hv, pe, _, rfl, SqT.of (le _ _ he), rfl, _, _, rfl, _, _, rfl, rfl, ?_⟩
    refine ⟨_, rfl, pw, _, _, _, rfl, rfl, tp, rfl, rfl, _, rfl, ifF (by decide +kernel) ?_⟩
    refine ⟨_, rfl, pw, _, _, _, rfl, rfl, tp, rfl, rfl, _, rfl, ifF (by decide +kernel) ?_⟩
    refine ⟨_, rfl, pw, _, _, _, rfl, rfl, tp, rfl, rfl, _, rfl, ifT (by decide +kernel) ?_⟩
    refine ⟨_, rfl, _, rfl, f, b, n, ds, rfl, hf, ok.F, ok.W, fun l H' s' h1 _ => ⟨l, _, rfl, .inr (SqT.of h1), _, rfl, pw, _, _, _, rfl, rfl, s'.seqT tp, rfl, rfl, ?_⟩⟩
    have := q H' s'
    simp only [keeps, hl] at this
    rw [List.length_map]
    have e1 : decide (V.int ((ring b ds).length : Nat) = V.int k) = decide (((ring b ds).length : Int) = k) := by simp
    rw [e1]
    exact this
  | alike t u =>
    obtain ⟨pe, ⟨b, n, ds⟩, hl, hv, f, he, hf0, ok⟩ := hn t (by simp [Wish.tags])
    have hf := hf0.same le
    refine ⟨_, rfl, _, rfl, pw, _, _, _, rfl, rfl, tp, rfl, tt, _, rfl, dg H t pe (Same.refl _) hv, pe, _, rfl, SqT.of (le _ _ he), rfl, _, _, rfl, _, _, rfl, rfl, ?_⟩
    obtain ⟨pf, ⟨b', n', ds'⟩, hl'0, hv', f', he', hf0', ok'⟩ := hn u (by simp [Wish.tags])
    have hf' := hf0'.same le
    refine ⟨_, rfl, pw, _, _, _, rfl, rfl, tp, rfl, rfl, _, rfl, ifF (by decide +kernel) ?_⟩
    refine ⟨_, rfl, pw, _, _, _, rfl, rfl, tp, rfl, rfl, _, rfl, ifF (by decide +kernel) ?_⟩
    refine ⟨_, rfl, pw, _, _, _, rfl, rfl, tp, rfl, rfl, _, rfl, ifF (by decide +kernel) ?_⟩
    refine ⟨_, rfl, _, rfl, pw, _, _, _, rfl, rfl, tp, rfl, tt, _, rfl, dg H u pf (Same.refl _) hv', pf, _, rfl, SqT.of (le _ _ he'), rfl, _, _, rfl, _, _, rfl, rfl, ?_⟩
    obtain ⟨dx, hdx⟩ := id hf
    obtain ⟨dy, hdy⟩ := id hf'
    refine ⟨_, rfl, _, rfl, f, dx, _, f', dy, _, rfl, rfl, hdx, hdy, f, f', b, n, b', n', rfl, hf, hf', _, rfl, _, rfl, ?_⟩
    have fin := q
    simp only [keeps, hl, hl'0] at fin
    by_cases hbn : b = b' ∧ n = n'
    · rw [decide_eq_true hbn] at fin ⊢
      obtain ⟨rfl, rfl⟩ := hbn
      refine ifF rfl ?_
      refine ⟨_, rfl, pw, _, _, _, rfl, rfl, tp, rfl, rfl, _, rfl, ifT (by decide +kernel) ?_⟩
      refine ⟨_, rfl, b, n, ds, rfl, ok.F, ok.W, fun t1 H4 s4 h4 _ => ⟨_, rfl, b, n, ds', rfl, ok'.F, ok'.W, fun t2 H5 s5 h5 _ => ?_⟩⟩
      exact rEq_tupI (s5.seqT (SqT.of h4)) (SqT.of h5) (fin _ (s4.trans s5))
    · rw [decide_eq_false hbn] at fin ⊢
      exact ifT rfl (fin _ (Same.refl _))
  | ends t u =>
    obtain ⟨pe, ⟨b, n, ds⟩, hl, hv, f, he, hf0, ok⟩ := hn t (by simp [Wish.tags])
    have hf := hf0.same le
    refine ⟨_, rfl, _, rfl, pw, _, _, _, rfl, rfl, tp, rfl, tt, _, rfl, dg H t pe (Same.refl _) hv, pe, _, rfl, SqT.of (le _ _ he), rfl, _, _, rfl, _, _, rfl, rfl, ?_⟩
    obtain ⟨pf, ⟨b', n', ds'⟩, hl'0, hv', f', he', hf0', ok'⟩ := hn u (by simp [Wish.tags])
    have hf' := hf0'.same le
    refine ⟨_, rfl, pw, _, _, _, rfl, rfl, tp, rfl, rfl, _, rfl, ifF (by decide +kernel) ?_⟩
    refine ⟨_, rfl, pw, _, _, _, rfl, rfl, tp, rfl, rfl, _, rfl, ifF (by decide +kernel) ?_⟩
    refine ⟨_, rfl, pw, _, _, _, rfl, rfl, tp, rfl, rfl, _, rfl, ifF (by decide +kernel) ?_⟩
    refine ⟨_, rfl, _, rfl, pw, _, _, _, rfl, rfl, tp, rfl, tt, _, rfl, dg H u pf (Same.refl _) hv', pf, _, rfl, SqT.of (le _ _ he'), rfl, _, _, rfl, _, _, rfl, rfl, ?_⟩
    obtain ⟨dx, hdx⟩ := id hf
    obtain ⟨dy, hdy⟩ := id hf'
    refine ⟨_, rfl, _, rfl, f, dx, _, f', dy, _, rfl, rfl, hdx, hdy, f, f', b, n, b', n', rfl, hf, hf', _, rfl, _, rfl, ?_⟩
    have fin := q
    simp only [keeps, hl, hl'0] at fin
    by_cases hbn : b = b' ∧ n = n'
    · rw [decide_eq_true hbn] at fin ⊢
      obtain ⟨rfl, rfl⟩ := hbn
      refine ifF rfl ?_
      refine ⟨_, rfl, pw, _, _, _, rfl, rfl, tp, rfl, rfl, _, rfl, ifF (by decide +kernel) ?_⟩
      refine ⟨_, rfl, _, rfl, f, b, n, ds, rfl, hf, ok.F, ok.W, fun t1 H4 s4 h4 _ => ⟨_, rfl, _, rfl, f, b, n, ds', rfl, hf.same s4, ok'.F, ok'.W, fun t2 H5 s5 h5 _ => ?_⟩⟩
      exact rEq_tupS (ring_ok ok.F ok.W) (ring_ok ok'.F ok'.W) (s5.seqT (SqT.of h4)) (SqT.of h5) (fin _ (s4.trans s5))
    · rw [decide_eq_false hbn] at fin ⊢
      exact ifT rfl (fin _ (Same.refl _))
/-! ### check_wishes -/
theorem merge_nodup : ∀ {more acc : List (Key × V)}, ((acc ++ more).map (·.1)).Nodup → mergeK acc more = acc ++ more
  | [], acc, _ => by simp [mergeK]
  | kv :: more, acc, h => by
    have hn : (acc.any fun x => decide (x.1 = kv.1)) = false := by
      rw [Bool.eq_false_iff]
      intro hx
      obtain ⟨x, hx, e⟩ := List.any_eq_true.mp hx
      rw [List.map_append, List.map_cons] at h
      have := (List.nodup_append.mp h).2.2 x.1 (List.mem_map_of_mem hx) kv.1 List.mem_cons_self
      exact this (of_decide_eq_true e)
    have e1 : mergeK acc (kv :: more) = mergeK (acc ++ [kv]) more := by
      show more.foldl _ (putK acc kv.1 kv.2) = more.foldl _ (acc ++ [kv])
      have : putK acc kv.1 kv.2 = acc ++ [kv] := by
        unfold putK
        rw [hn]
        rfl
      rw [this]
    rw [e1, merge_nodup (by rw [List.append_assoc]; exact h), List.append_assoc]
    rfl
/-- the entries' tuple of a book: pairs of name and value, in order -/
def IsRow (C : Addr) (G : Hp) (p : Addr) (te : Str × Ent) : Prop := ∃ v, G p = some (.tup [.str te.1, .ref v]) ∧ IsVal C G v te.2
theorem rows_tab {C : Addr} {K : PySem.W.Frag} {G H : Hp} (le : Same G H) : ∀ {ps : List Addr} {hd : Held}, Paired (IsRow C G) ps hd → ∃ kvs : List (Key × V), Paired (fun p kv => SqT K H p [kV kv.1, kv.2]) ps kvs ∧ Paired (IsTabK C G) kvs hd
  | [], [], _ => ⟨[], .nil, .nil⟩
  | p :: ps, te :: hd, .cons ⟨v, h1, h2⟩ r => by
    obtain ⟨kvs, r1, r2⟩ := rows_tab le r
    exact ⟨(Sum.inr te.1, .ref v) :: kvs, .cons (SqT.of (le _ _ h1)) r1, .cons ⟨rfl, v, rfl, h2⟩ r2⟩
theorem tab_keys {C : Addr} {G : Hp} : ∀ {kvs : List (Key × V)} {hd : Held}, Paired (IsTabK C G) kvs hd → kvs.map (·.1) = (hd.map (·.1)).map Sum.inr
  | _, _, .nil => rfl
  | _, _, .cons h r => by
    simp only [List.map_cons]
    rw [h.1, tab_keys r]
abbrev vCheckWishes : List Str := ["entries", "wishes", "table", "index", "wish"]
abbrev pCheckWishes : List Str := ["entries", "wishes"]
theorem scCheckWishes : FnScope vCheckWishes pCheckWishes (defScope (top 53)) := ⟨rfl, rfl, rfl, by decide +kernel, rfl, by decide +kernel, by decide +kernel⟩
def spCheck (C Br : Addr) : Sp := fun vs H Q E => ∃ (G : Hp) (e ws : Addr) (o : Obj) (ps qs : List Addr) (hd : Held) (wl : List Wish), vs = [.ref e, .ref ws] ∧ Same G H ∧ H e = some (.frz o (.tup (ps.map V.ref))) ∧ o.dict = none ∧ Paired (IsRow C G) ps hd ∧ (hd.map (·.1)).Nodup ∧
  H ws = some (.tup (qs.map V.ref)) ∧ Paired (IsWish G) qs wl ∧ (∀ w ∈ wl, Named hd w) ∧ (∀ H', Same H H' → brk hd wl = none → Q .non H') ∧
  (∀ (k : Nat) (d : Addr) (H' : Hp), Same H H' → brk hd wl = some k → H' d = some (.xd [("index", .int k)]) → H d = none → E (.ref Br) (some d) H')
theorem okCheckWishes (T : TxtA K mg) : FnX P w K mg base (L2N.CX P w) false false 10 T.check_wishes.f T.check_wishes.fd pCheckWishes (spCheck T.Field.C T.Br) := by
  refine funX (k := 9) T.check_wishes.F scCheckWishes (fun vs H Q E ⟨G, e, ws, o, ps, qs, hd, wl, eq, _⟩ => eq ▸ rfl) fun cdv A outer s H vs Q E p c ⟨G, e, ws, o, ps, qs, hd, wl, eq, le, he, hod, rows, hnd, hws, pws, nm, q1, q2⟩ => ?_
  subst eq
  refine ⟨_, pss_cons (ps_set (i := 2) scCheckWishes.nd rfl (Or.inl rfl) (pe_callTy (call_dictT rfl) (by rfl) T.dict (by decide +kernel) (pa_cons (pv 0) pa_nil)))
      (pss_one (ps_for (passes_of rfl) rfl (pi_enumT rfl T.enumerate (pa_cons (pv 1) pa_nil)) (pg_tupX c.md (pgs_cons (pg_name (i := 3) scCheckWishes.nd rfl (Or.inl rfl)) (pgs_cons (pg_name (i := 4) scCheckWishes.nd rfl (Or.inl rfl)) pgs_nil))) (pss_one (ps_if (pt_not (pt_val (pe_callX (okHolds T) (c.mono (by decide)) nogd rfl T.holds.mg T.holds.kp T.holds.b at00 (pa_cons (pv 2) (pa_cons (pv 4) pa_nil))))) (pss_one (L2N.ps_raise rfl tkN (pmk_ex T.xBr c.rm.room (pa_cons (pv 3) pa_nil) rfl))) pss_nil)))), ?_⟩
  obtain ⟨kvs, r1, r2⟩ := rows_tab (K := K) le rows
  refine ⟨_, rfl, e, o, ps, kvs, rfl, he, hod, r1, fun t ht => ?_⟩
  have hm : mergeK [] kvs = kvs := by
    rw [merge_nodup, List.nil_append]
    rw [List.nil_append, tab_keys r2]
    exact List.pairwise_map.mpr (List.Pairwise.imp (fun h z => h (Sum.inr.inj z)) hnd)
  rw [hm]
  have s1 := (Same.refl H).new (o := .dK kvs) ht
  have h1 := upd_same (H := H) (a := t) (o := .dK kvs)
  generalize upd H t (.dK kvs) = H1 at s1 h1 ⊢
  have tw := SqT.of (K := K) (s1 _ _ hws)
  refine ⟨_, rfl, ws, _, rfl, tw, for_enumT (K := K) (a := ws) (xs := qs.map V.ref) (fun i σ H' => Same H1 H' ∧ (∃ u v, σ = [some (.ref e), some (.ref ws), some (.ref t), u, v]) ∧ ∀ j, j < i → ∀ w', wl[j]? = some w' → keeps hd w' = true) ⟨Same.refl _, ⟨_, _, rfl⟩, fun j hj => by omega⟩ (fun i σ H' h => h.1.seqT tw) ?_ ?_⟩
  · rintro i x T' σ H' hx ⟨s2, ⟨u, v, rfl⟩, hk⟩ hT
    rw [List.getElem?_map] at hx
    cases hqi : qs[i]? with
    | none => rw [hqi] at hx; cases hx
    | some qi =>
      rw [hqi] at hx
      cases hx
      obtain ⟨wi, hwi, iw⟩ := Paired.at' pws i qi hqi
      have s3 := s2.new (o := .tup [.int (i : Nat), .ref qi]) hT
      refine ⟨T', _, rfl, SqT.of upd_same, rfl, _, _, rfl, _, _, rfl, rfl, ?_⟩
      refine ⟨_, rfl, _, rfl, G, t, qi, kvs, hd, wi, rfl, (le.trans s1).trans s3, s3 _ _ h1, r2, iw, nm _ (List.mem_of_getElem? hwi), fun H2 s4 => ⟨_, rfl, ?_⟩⟩
      cases hkw : keeps hd wi with
      | true =>
        refine ifF rfl ?_
        refine ⟨s3.trans s4, ⟨_, _, rfl⟩, fun j hj w' hw' => ?_⟩
        rcases Nat.lt_succ_iff_lt_or_eq.mp hj with hj | rfl
        · exact hk j hj w' hw'
        · rw [hwi] at hw'
          cases hw'
          exact hkw
      | false =>
        refine ifT rfl ?_
        refine ⟨_, rfl, _, rfl, fun d hd0 => ?_⟩
        have s5 := (s1.trans s3).trans s4
        refine q2 i d _ (s5.new hd0) ?_ upd_same (s5.free hd0)
        unfold brk
        have hil := (List.getElem?_eq_some_iff.mp hwi).1
        rw [List.findIdx?_eq_some_iff_getElem]
        refine ⟨hil, ?_, fun j hj => ?_⟩
        · have : wl[i] = wi := (List.getElem?_eq_some_iff.mp hwi).2
          simp [this, hkw]
        · have := hk j hj wl[j] (List.getElem?_eq_getElem (by omega))
          simp [this]
  · rintro σ H' ⟨s2, ⟨u, v, rfl⟩, hk⟩
    refine q1 H' (s1.trans s2) ?_
    unfold brk
    rw [List.findIdx?_eq_none_iff]
    intro x hx
    obtain ⟨j, hj, rfl⟩ := List.getElem_of_mem hx
    have := hk j (by rw [List.length_map, pws.length]; exact hj) wl[j] (List.getElem?_eq_getElem hj)
    simp [this]
end
end Spf
end
section
set_option maxHeartbeats 4000000
/-! The book: what is read off it, in both modes. -/
namespace Spf
open PySem PySem.Spec PyProof.Rows L2 L2H HotX
/-! ### the book's states, in the ghost heap -/
def IsEntT (C : Addr) (G : Hp) (e : Addr) (hd : Held) : Prop := (hd = [] ∧ G e = some (.tup [])) ∨ ∃ (o : Obj) (ps : List Addr), G e = some (.frz o (.tup (ps.map V.ref))) ∧ o.dict = none ∧ Paired (IsRow C G) ps hd
def IsWishT (G : Hp) (w : Addr) (ws : List Wish) : Prop := ∃ qs : List Addr, G w = some (.tup (qs.map V.ref)) ∧ Paired (IsWish G) qs ws
def IsSnap (C : Addr) (G : Hp) (s : Addr) (c : Snap) : Prop := ∃ e w, G s = some (.tup [.ref e, .ref w]) ∧ IsEntT C G e c.held ∧ IsWishT G w c.hopes
/-- the states' tuple at t: bs the snaps, the newest ahead -/
def IsStates (C : Addr) (G : Hp) (t : Addr) (bs : List Snap) : Prop := ∃ ss : List Addr, G t = some (.tup (ss.map V.ref)) ∧ Paired (IsSnap C G) ss bs.reverse
def IsBook (CB C : Addr) (H G : Hp) (b : Addr) (bs : List Snap) : Prop := ∃ dx t, H b = some (.ins CB dx [("states", .ref t)]) ∧ IsStates C G t bs
theorem IsRow.mono {C : Addr} {G G' : Hp} {p : Addr} {te : Str × Ent} (s : Same G G') : IsRow C G p te → IsRow C G' p te := fun ⟨v, h1, h2⟩ => ⟨v, s _ _ h1, h2.mono s⟩
theorem IsEntT.mono {C : Addr} {G G' : Hp} {e : Addr} {hd : Held} (s : Same G G') : IsEntT C G e hd → IsEntT C G' e hd
  | .inl ⟨h1, h2⟩ => .inl ⟨h1, s _ _ h2⟩
  | .inr ⟨o, ps, h1, h2, h3⟩ => .inr ⟨o, ps, s _ _ h1, h2, h3.mono fun _ _ h => h.mono s⟩
theorem IsWishT.mono {G G' : Hp} {w : Addr} {ws : List Wish} (s : Same G G') : IsWishT G w ws → IsWishT G' w ws := fun ⟨qs, h1, h2⟩ => ⟨qs, s _ _ h1, h2.mono fun _ _ h => h.mono s⟩
theorem IsSnap.mono {C : Addr} {G G' : Hp} {p : Addr} {c : Snap} (s : Same G G') : IsSnap C G p c → IsSnap C G' p c := fun ⟨e, w, h1, h2, h3⟩ => ⟨e, w, s _ _ h1, h2.mono s, h3.mono s⟩
theorem IsStates.mono {C : Addr} {G G' : Hp} {t : Addr} {bs : List Snap} (s : Same G G') : IsStates C G t bs → IsStates C G' t bs := fun ⟨ss, h1, h2⟩ => ⟨ss, s _ _ h1, h2.mono fun _ _ h => h.mono s⟩
theorem states_f (v : V) : ([(("states" : Str), v)] : List (Str × V)).lookup ("states" : Str) = some v := by simp [List.lookup]
theorem IsEntT.seq {C : Addr} {K : PySem.W.Frag} {G H : Hp} {e : Addr} {hd : Held} (le : Same G H) (h : IsEntT C G e hd) : ∃ ps : List Addr, SqT K H e (ps.map V.ref) ∧ Paired (IsRow C G) ps hd := by
  rcases h with ⟨rfl, h⟩ | ⟨o, ps, h1, _, h3⟩
  · exact ⟨[], SqT.of (le _ _ h), .nil⟩
  · exact ⟨ps, .inl (.inr ⟨o, le _ _ h1⟩), h3⟩
/-- the newest state: its tuple, last in the states' tuple -/
theorem IsStates.last {C : Addr} {G : Hp} {t : Addr} {c : Snap} {rest : List Snap} (h : IsStates C G t (c :: rest)) : ∃ (ss : List Addr) (s : Addr), G t = some (.tup (ss.map V.ref ++ [V.ref s])) ∧ IsSnap C G s c ∧ Paired (IsSnap C G) ss rest.reverse := by
  obtain ⟨ss, h1, h2⟩ := h
  rw [List.reverse_cons] at h2
  have : ∀ {xs : List Addr} {ys : List Snap} {y : Snap}, Paired (IsSnap C G) xs (ys ++ [y]) → ∃ xs' x, xs = xs' ++ [x] ∧ IsSnap C G x y ∧ Paired (IsSnap C G) xs' ys := by
    intro xs ys
    induction ys generalizing xs with
    | nil =>
      intro y h
      cases h with
      | cons h r => cases r; exact ⟨[], _, rfl, h, .nil⟩
    | cons z ys ih =>
      intro y h
      cases h with
      | cons h r =>
        obtain ⟨xs', x, rfl, h1, h2⟩ := ih r
        exact ⟨_ :: xs', x, rfl, h1, .cons h h2⟩
  obtain ⟨ss', s, rfl, h3, h4⟩ := this h2
  exact ⟨ss', s, by rw [h1]; simp, h3, h4⟩
section
variable {g : TG} {tt : TT} {te : TE} {vs : List Nat} {σ : L2.St} {H1 : Hp} {D : Addr} {Qd : Hp → Prop} {ys : List V} {K : PySem.W.Frag}
theorem lc_mapTup {a : Addr} {xs : List V} (hD : H1 D = none) (ha : SqT K H1 a xs) (hl : ys.length = xs.length) (hn : xs.length ≤ 1000000)
    (hs : ∀ (i : Nat) (x : V) (H : Hp) (Qe : VK), xs[i]? = some x → Same H1 H → (∀ y H4, ys[i]? = some y → Same H H4 → Qe y H4) → g x (wipe σ vs) H fun σ2 H2 => wipe σ2 vs = wipe σ vs ∧ tt σ2 H2 fun b H3 => b = true ∧ te σ2 H3 Qe)
    (hd : ∀ H, Same H1 H → H D = some (.lst ys) → Qd H)
    (mono : ∀ x σ H Q Q', (∀ σ2 H2, Q σ2 H2 → Q' σ2 H2) → g x σ H Q → g x σ H Q') (mono2 : ∀ σ H Q Q', (∀ b H2, Q b H2 → Q' b H2) → tt σ H Q → tt σ H Q' := by exact fun _ _ _ _ h q => h _ _ q) :
    ∃ W : Nat → Nat → Hp → Prop, (∃ m, W 0 m (upd H1 D (.lst []))) ∧ ∀ i m H, W i m H →
      ((Itt K a).stop i H ∧ Qd H) ∨ ((Itt K a).go i H ∧ ∃ Nx : Hp → Prop, (∀ H', Nx H' → ∃ m', m' < m ∧ W (i + 1) m' H') ∧ ∀ v H', (Itt K a).yld i H v H' → g v (wipe σ vs) H' fun σ2 H2 => wipe σ2 vs = wipe σ vs ∧ tt σ2 H2 fun b H3 =>
        if b = true then te σ2 H3 fun y H4 => ∃ acc, H4 D = some (.lst acc) ∧ acc.length < sizeLine ∧ Nx (upd H4 D (.lst (acc ++ [y]))) else Nx H3) :=
  lc_mapG xs.length (fun i v => xs[i]? = some v) hD (fun i H h s => ⟨xs, xs[i], s.seqT ha, by simp [h]⟩) (fun i H v H' h s y => ⟨y.1, y.2 xs (s.seqT ha)⟩) (fun H s => ⟨xs, s.seqT ha, Nat.le_refl _⟩) hl hn (fun i v H Qe h e s q => hs i v H Qe e s q) mono mono2 hd
end
section
variable {P : Program} {w : World} {K : PySem.W.Frag} {mg : Str → Option Value} {base : Heap} {h : Bool}
abbrev vBookInit : List Str := ["self"]
abbrev pBookInit : List Str := ["self"]
theorem scBookInit : FnScope vBookInit pBookInit (defScope (inClass (top 54) 0)) := ⟨rfl, rfl, rfl, by decide +kernel, rfl, by decide +kernel, by decide +kernel⟩
def spBookInit (CB C : Addr) : Sp := fun vs H Q _ => ∃ (b dx : Addr), vs = [.ref b] ∧ H b = some (.ins CB dx []) ∧ ∀ (t e w s : Addr) (H' : Hp), (∀ a o, a ≠ b → H a = some o → H' a = some o) → H' b = some (.ins CB dx [("states", .ref t)]) → H t = none → H e = none → H w = none → H s = none →
  H' t = some (.tup [.ref s]) → H' s = some (.tup [.ref e, .ref w]) → H' e = some (.tup []) → H' w = some (.tup []) → Q .non H'
theorem okBookInit (T : TxtA K mg) : FnX P w K mg base CX0 false false 1 T.bInit.f T.bInit.fd pBookInit (spBookInit T.Book.C T.Field.C) := by
  refine funX0 (k := 0) T.bInit.F scBookInit (fun vs H Q E ⟨b, dx, e, _⟩ => e ▸ rfl) fun cdv A outer s H vs Q E p c ⟨b, dx, e, hb, q⟩ => ?_
  subst e
  refine ⟨_, pss_one (ps_fld (pv 0) (pe_tup (pa_cons (pe_tup (pa_cons (pe_tup pa_nil) (pa_cons (pe_tup pa_nil) pa_nil))) pa_nil)) rfl), ?_⟩
  refine ⟨Nat.zero_le _, fun e he => ⟨Nat.zero_le _, fun w hw => ⟨szL (by show 2 ≤ 1000000; decide), fun s hs => ⟨szL (by show 1 ≤ 1000000; decide), fun t ht => ?_⟩⟩⟩⟩
  have s1 := (Same.refl H).new (o := .tup []) he
  have s2 := s1.new (o := .tup []) hw
  have s3 := s2.new (o := .tup [.ref e, .ref w]) hs
  have s4 := s3.new (o := .tup [.ref s]) ht
  have new : e ≠ w := ne_of_none upd_same hw
  have nes : e ≠ s := ne_of_none (by rw [upd_ne new, upd_same]) hs
  have nws : w ≠ s := ne_of_none upd_same hs
  have net : e ≠ t := ne_of_none (by rw [upd_ne nes, upd_ne new, upd_same]) ht
  have nwt : w ≠ t := ne_of_none (by rw [upd_ne nws, upd_same]) ht
  have nst : s ≠ t := ne_of_none upd_same ht
  have nb : ∀ x, (H x = none) → x ≠ b := fun x hx z => by rw [z, hb] at hx; cases hx
  refine ⟨_, rfl, b, T.Book.C, dx, [], rfl, s4 _ _ hb, T.Book.cl, T.noStates, by show 0 < 1000; decide, ?_⟩
  refine q t e w s _ (fun a o hn ha => by rw [upd_ne hn]; exact s4 _ _ ha) (by rw [upd_same]; rfl) (s3.free ht) he (s1.free hw) (s2.free hs) ?_ ?_ ?_ ?_
  · rw [upd_ne (nb _ (s3.free ht)), upd_same]
  · rw [upd_ne (nb _ (s2.free hs)), upd_ne nst, upd_same]
  · rw [upd_ne (nb _ he), upd_ne net, upd_ne nes, upd_ne new, upd_same]
  · rw [upd_ne (nb _ (s1.free hw)), upd_ne nwt, upd_ne nws, upd_same]
abbrev vBookEntries : List Str := ["self"]
abbrev pBookEntries : List Str := ["self"]
theorem scBookEntries : FnScope vBookEntries pBookEntries (defScope (inClass (top 54) 1)) := ⟨rfl, rfl, rfl, by decide +kernel, rfl, by decide +kernel, by decide +kernel⟩
def spEntriesB (CB C : Addr) : Sp := fun vs H Q _ => ∃ (G : Hp) (b : Addr) (c : Snap) (rest : List Snap), vs = [.ref b] ∧ Same G H ∧ IsBook CB C H G b (c :: rest) ∧ ∀ e, IsEntT C G e c.held → Q (.ref e) H
theorem okBookEntries (T : TxtA K mg) : FnX P w K mg base CX0 false h 1 T.bEntries.f T.bEntries.fd pBookEntries (spEntriesB T.Book.C T.Field.C) := by
  refine funX0 (k := 0) T.bEntries.F scBookEntries (fun vs H Q E ⟨G, b, c, r, e, _⟩ => e ▸ rfl) fun cdv A outer s H vs Q E p c ⟨G, b, cc, rest, e, le, ⟨dx, t, hb, ist⟩, q⟩ => ?_
  subst e
  obtain ⟨ss, s0, h1, ⟨e0, w0, h2, h3, h4⟩, _⟩ := ist.last
  refine ⟨_, pss_one (ps_ret (pe_ix ix_tup (pe_ix ix_tup (pe_fld (pv 0) rfl) (pe_un un_neg pe_int) (fun _ _ => rfl)) pe_int (fun _ _ => rfl))), ?_⟩
  exact ⟨_, rfl, b, T.Book.C, dx, _, _, rfl, hb, T.Book.cl, T.noStates, states_f _, 1, rfl, t, _, -1, _, rfl, rfl, SqT.of (le _ _ h1), atI_last _ _, s0, _, _, _, rfl, rfl, SqT.of (le _ _ h2), rfl, q e0 h3⟩
abbrev vBookWishes : List Str := ["self"]
abbrev pBookWishes : List Str := ["self"]
theorem scBookWishes : FnScope vBookWishes pBookWishes (defScope (inClass (top 54) 3)) := ⟨rfl, rfl, rfl, by decide +kernel, rfl, by decide +kernel, by decide +kernel⟩
def spWishesB (CB C : Addr) : Sp := fun vs H Q _ => ∃ (G : Hp) (b : Addr) (c : Snap) (rest : List Snap), vs = [.ref b] ∧ Same G H ∧ IsBook CB C H G b (c :: rest) ∧ ∀ w, IsWishT G w c.hopes → Q (.ref w) H
theorem okBookWishes (T : TxtA K mg) : FnX P w K mg base CX0 false h 1 T.bWishes.f T.bWishes.fd pBookWishes (spWishesB T.Book.C T.Field.C) := by
  refine funX0 (k := 0) T.bWishes.F scBookWishes (fun vs H Q E ⟨G, b, c, r, e, _⟩ => e ▸ rfl) fun cdv A outer s H vs Q E p c ⟨G, b, cc, rest, e, le, ⟨dx, t, hb, ist⟩, q⟩ => ?_
  subst e
  obtain ⟨ss, s0, h1, ⟨e0, w0, h2, h3, h4⟩, _⟩ := ist.last
  refine ⟨_, pss_one (ps_ret (pe_ix ix_tup (pe_ix ix_tup (pe_fld (pv 0) rfl) (pe_un un_neg pe_int) (fun _ _ => rfl)) pe_int (fun _ _ => rfl))), ?_⟩
  exact ⟨_, rfl, b, T.Book.C, dx, _, _, rfl, hb, T.Book.cl, T.noStates, states_f _, 1, rfl, t, _, -1, _, rfl, rfl, SqT.of (le _ _ h1), atI_last _ _, s0, _, _, _, rfl, rfl, SqT.of (le _ _ h2), rfl, q w0 h4⟩
abbrev vBookChanges : List Str := ["self"]
abbrev pBookChanges : List Str := ["self"]
theorem scBookChanges : FnScope vBookChanges pBookChanges (defScope (inClass (top 54) 4)) := ⟨rfl, rfl, rfl, by decide +kernel, rfl, by decide +kernel, by decide +kernel⟩
def spChangesB (CB C : Addr) : Sp := fun vs H Q _ => ∃ (G : Hp) (b : Addr) (bs : List Snap), vs = [.ref b] ∧ Same G H ∧ IsBook CB C H G b bs ∧ Q (.int ((bs.length : Int) - 1)) H
theorem okBookChanges (T : TxtA K mg) : FnX P w K mg base CX0 false h 1 T.bChanges.f T.bChanges.fd pBookChanges (spChangesB T.Book.C T.Field.C) := by
  refine funX0 (k := 0) T.bChanges.F scBookChanges (fun vs H Q E ⟨G, b, bs, e, _⟩ => e ▸ rfl) fun cdv A outer s H vs Q E p c ⟨G, b, bs, e, le, ⟨dx, t, hb, ⟨ss, h1, h2⟩⟩, q⟩ => ?_
  subst e
  have hl : ss.length = bs.length := by rw [h2.length, List.length_reverse]
  refine ⟨_, pss_one (ps_ret (pe_op op_sub (pe_callB call_len_seq (by rfl) T.len PySem.boot_len (pa_cons (pe_fld (pv 0) rfl) pa_nil)) pe_int)), ?_⟩
  refine ⟨_, rfl, b, T.Book.C, dx, _, _, rfl, hb, T.Book.cl, T.noStates, states_f _, t, _, rfl, .inr (SqT.of (le _ _ h1)), _, _, rfl, rfl, ?_⟩
  rw [List.length_map, hl]
  exact q
abbrev vBookNames : List Str := ["self", "name", "value"]
abbrev pBookNames : List Str := ["self"]
theorem scBookNames : FnScope vBookNames pBookNames (defScope (inClass (top 54) 2)) := ⟨rfl, rfl, rfl, by decide +kernel, rfl, by decide +kernel, by decide +kernel⟩
def spNamesB (CB C : Addr) : Sp := fun vs H Q _ => ∃ (G : Hp) (b : Addr) (c : Snap) (rest : List Snap), vs = [.ref b] ∧ Same G H ∧ IsBook CB C H G b (c :: rest) ∧ c.held.length ≤ 1000 ∧ ∀ (l : Addr) (H' : Hp), Same H H' → H' l = some (.tup ((c.held.map (·.1)).map V.str)) → H l = none → Q (.ref l) H'
theorem okBookNames (T : TxtA K mg) : FnX P w K mg base CX0 false h 3 T.bNames.f T.bNames.fd pBookNames (spNamesB T.Book.C T.Field.C) := by
  refine funX0 (k := 2) T.bNames.F scBookNames (fun vs H Q E ⟨G, b, c, r, e, _⟩ => e ▸ rfl) fun cdv A outer s H vs Q E p c ⟨G, b, cc, rest, e, le, ib, hlen, q⟩ => ?_
  subst e
  obtain ⟨dx, t, hb, ist⟩ := id ib
  refine ⟨_, pss_one (ps_ret (pe_callTy call_tuple_of (by rfl) T.tuple (by decide +kernel) (pa_cons (pe_lcX c.md (own := [("name", 1), ("value", 2)]) scBookNames.nd (pi_tupX (pe_propX (E := fun _ => E0) (pv 0) T.Book.cl T.bEntries.p (okBookEntries T) (c.mono (by decide)) nogd T.bEntries.b rfl)) (blkOk_by (N := vBookNames) (sc := defScope (inClass (top 54) 2)) (by decide +kernel)) (fun _ _ _ _ _ => (pg_tupK K (n := 2) c.blkX.md (pgs_cons (pg_name (i := 1) scBookNames.nd rfl (Or.inl rfl)) (pgs_cons (pg_name (i := 2) scBookNames.nd rfl (Or.inl rfl)) pgs_nil)))) (fun _ _ _ _ _ => pts_nil) (fun _ _ _ _ _ => (pv 1))) pa_nil))), ?_⟩
  refine ⟨_, rfl, b, dx, _, rfl, hb, G, b, cc, rest, rfl, le, ib, fun e0 he => ?_⟩
  obtain ⟨ps, hq, rows⟩ := he.seq (K := K) le
  have hpl : ps.length = cc.held.length := rows.length
  refine ⟨e0, rfl, ⟨_, hq⟩, fun D hD => lc_mapTup (K := K) (xs := ps.map V.ref) (ys := (cc.held.map (·.1)).map V.str) hD hq (by simp [hpl]) (by simp; omega) ?_ ?_ ?_⟩
  · intro i x H2 Qe hx s2 hq2
    rw [List.getElem?_map] at hx
    cases hpi : ps[i]? with
    | none => rw [hpi] at hx; cases hx
    | some pi =>
      rw [hpi] at hx
      cases hx
      obtain ⟨te, hte, v, hrow, _⟩ := Paired.at' rows i pi hpi
      refine ⟨pi, _, rfl, SqT.of (s2 _ _ (le _ _ hrow)), rfl, _, _, rfl, _, _, rfl, rfl, rfl, rfl, _, rfl, hq2 _ _ ?_ (Same.refl _)⟩
      simp [hte]
  · intro H2 s2 h2
    exact ⟨D, _, rfl, .inl ⟨SqL.of h2, fun l hl => q l _ (s2.new hl) upd_same (s2.free hl)⟩⟩
  · rintro x σ H Q Q' h ⟨a, xs, e, hs, hn, v, r, e1, v2, r2, e2, e3, q⟩
    exact ⟨a, xs, e, hs, hn, v, r, e1, v2, r2, e2, e3, h _ _ q⟩
abbrev vBookGetitem : List Str := ["self", "name", "known", "value"]
abbrev pBookGetitem : List Str := ["self", "name"]
theorem scBookGetitem : FnScope vBookGetitem pBookGetitem (defScope (inClass (top 54) 6)) := ⟨rfl, rfl, rfl, by decide +kernel, rfl, by decide +kernel, by decide +kernel⟩
def spGetB (CB C : Addr) : Sp := fun vs H Q _ => ∃ (G : Hp) (b : Addr) (c : Snap) (rest : List Snap) (t : Str) (e : Ent), vs = [.ref b, .str t] ∧ Same G H ∧ IsBook CB C H G b (c :: rest) ∧ look c.held t = some e ∧ ∀ v, IsVal C G v e → Q (.ref v) H
theorem okBookGetitem (T : TxtA K mg) : FnX P w K mg base CX0 false h 3 T.bGet.f T.bGet.fd pBookGetitem (spGetB T.Book.C T.Field.C) := by
  refine funX0 (k := 2) T.bGet.F scBookGetitem (fun vs H Q E ⟨G, b, c, r, t, e, eq, _⟩ => eq ▸ rfl) fun cdv A outer s H vs Q E p c ⟨G, b, cc, rest, t, e, eq, le, ib, hl, q⟩ => ?_
  subst eq
  obtain ⟨dx, t0, hb, ist⟩ := id ib
  refine ⟨_, pss_cons (ps_forX PassesOwn.never c.md (pi_tupX (pe_propX (E := fun _ => E0) (pv 0) T.Book.cl T.bEntries.p (okBookEntries T) (c.mono (by decide)) nogd T.bEntries.b rfl)) (pg_tupX c.md (pgs_cons (pg_name (i := 2) scBookGetitem.nd rfl (Or.inl rfl)) (pgs_cons (pg_name (i := 3) scBookGetitem.nd rfl (Or.inl rfl)) pgs_nil))) (pss_one (ps_if (pt_cmpR op_eq (pv 2) (pv 1) (nomark _)) (pss_one (ps_ret (pv 3))) pss_nil)))
      (pss_one ps_never), ?_⟩
  refine ⟨_, rfl, b, dx, _, rfl, hb, G, b, cc, rest, rfl, le, ib, fun e0 he => ?_⟩
  obtain ⟨ps, hq, rows⟩ := he.seq (K := K) le
  refine ⟨e0, rfl, ⟨_, hq⟩, for_tup (K := K) (xs := ps.map V.ref) (fun i σ H' => H' = H ∧ (∃ u v, σ = [some (.ref b), some (.str t), u, v]) ∧ ∀ j te, j < i → cc.held[j]? = some te → te.1 ≠ t) ⟨rfl, ⟨_, _, rfl⟩, fun j te hj => by omega⟩ (fun i σ H' _ h => h.1 ▸ hq) ?_ ?_⟩
  · rintro i x σ H' hx ⟨rfl, ⟨u, v, rfl⟩, hk⟩
    rw [List.getElem?_map] at hx
    cases hpi : ps[i]? with
    | none => rw [hpi] at hx; cases hx
    | some pi =>
      rw [hpi] at hx
      cases hx
      obtain ⟨te, hte, v, hrow, hval⟩ := Paired.at' rows i pi hpi
      refine ⟨pi, _, rfl, SqT.of (le _ _ hrow), rfl, _, _, rfl, _, _, rfl, rfl, ?_⟩
      refine ⟨_, rfl, _, rfl, rfl, _, rfl, ?_⟩
      have ed : decide (V.str te.1 = V.str t) = decide (te.1 = t) := by simp
      rw [ed]
      by_cases ht : te.1 = t
      · refine ifT (decide_eq_true ht) ⟨_, rfl, ?_⟩
        have : te.2 = e := by
          have h2 : look cc.held t = some te.2 := by
            unfold look
            have : cc.held.find? (fun kv => decide (kv.1 = t)) = some te := by
              rw [List.find?_eq_some_iff_getElem]
              have hil := (List.getElem?_eq_some_iff.mp hte).1
              refine ⟨decide_eq_true ht, i, hil, (List.getElem?_eq_some_iff.mp hte).2, fun j hj => ?_⟩
              have := hk j cc.held[j] hj (List.getElem?_eq_getElem (by omega))
              simp [this]
            rw [this]
            rfl
          rw [h2] at hl
          exact Option.some.inj hl
        exact q v (this ▸ hval)
      · refine ifF (decide_eq_false ht) ⟨rfl, ⟨_, _, rfl⟩, fun j te' hj hte' => ?_⟩
        rcases Nat.lt_succ_iff_lt_or_eq.mp hj with hj | rfl
        · exact hk j te' hj hte'
        · rw [hte] at hte'
          cases hte'
          exact ht
  · rintro σ H' ⟨rfl, _, hk⟩
    exfalso
    unfold look at hl
    cases hf : cc.held.find? (fun kv => decide (kv.1 = t)) with
    | none => rw [hf] at hl; cases hl
    | some te =>
      obtain ⟨hd, i, hi, e1, _⟩ := List.find?_eq_some_iff_getElem.mp hf
      refine hk i te (by rw [List.length_map, rows.length]; exact hi) (by rw [List.getElem?_eq_getElem hi, e1]) (of_decide_eq_true hd)
abbrev vBookContains : List Str := ["self", "value"]
abbrev pBookContains : List Str := ["self", "value"]
theorem scBookContains : FnScope vBookContains pBookContains (defScope (inClass (top 54) 13)) := ⟨rfl, rfl, rfl, by decide +kernel, rfl, by decide +kernel, by decide +kernel⟩
def spHasB (CB C : Addr) : Sp := fun vs H Q _ => ∃ (G : Hp) (b : Addr) (c : Snap) (rest : List Snap) (t : Str), vs = [.ref b, .str t] ∧ Same G H ∧ IsBook CB C H G b (c :: rest) ∧ c.held.length ≤ 1000 ∧ ∀ (H' : Hp), Same H H' → Q (.bl (decide (t ∈ c.held.map (·.1)))) H'
theorem okBookContains (T : TxtA K mg) : FnX P w K mg base CX0 false h 5 T.bHas.f T.bHas.fd pBookContains (spHasB T.Book.C T.Field.C) := by
  refine funX0 (k := 4) T.bHas.F scBookContains (fun vs H Q E ⟨G, b, c, r, t, e, _⟩ => e ▸ rfl) fun cdv A outer s H vs Q E p c ⟨G, b, cc, rest, t, e, le, ib, hlen, q⟩ => ?_
  subst e
  obtain ⟨dx, t0, hb, ist⟩ := id ib
  refine ⟨_, pss_one (ps_ret (pe_cmpR op_in_seq (pv 1) (pe_propX (E := fun _ => E0) (pv 0) T.Book.cl T.bNames.p (okBookNames T) (c.mono (by decide)) nogd T.bNames.b rfl) (by rfl))), ?_⟩
  refine ⟨_, rfl, _, rfl, b, dx, _, rfl, hb, G, b, cc, rest, rfl, le, ib, hlen, fun l H1 s1 h1 _ => ⟨l, _, rfl, .inr (SqT.of h1), rfl, flat_strs _, ?_⟩⟩
  rw [inV_strs]
  exact q H1 s1
abbrev vBookLen : List Str := ["self"]
abbrev pBookLen : List Str := ["self"]
theorem scBookLen : FnScope vBookLen pBookLen (defScope (inClass (top 54) 14)) := ⟨rfl, rfl, rfl, by decide +kernel, rfl, by decide +kernel, by decide +kernel⟩
def spLenB (CB C : Addr) : Sp := fun vs H Q _ => ∃ (G : Hp) (b : Addr) (c : Snap) (rest : List Snap), vs = [.ref b] ∧ Same G H ∧ IsBook CB C H G b (c :: rest) ∧ Q (.int (c.held.length : Nat)) H
theorem okBookLen (T : TxtA K mg) : FnX P w K mg base CX0 false h 3 T.bLen.f T.bLen.fd pBookLen (spLenB T.Book.C T.Field.C) := by
  refine funX0 (k := 2) T.bLen.F scBookLen (fun vs H Q E ⟨G, b, c, r, e, _⟩ => e ▸ rfl) fun cdv A outer s H vs Q E p c ⟨G, b, cc, rest, e, le, ib, q⟩ => ?_
  subst e
  obtain ⟨dx, t0, hb, ist⟩ := id ib
  refine ⟨_, pss_one (ps_ret (pe_callB call_len_seq (by rfl) T.len PySem.boot_len (pa_cons (pe_propX (E := fun _ => E0) (pv 0) T.Book.cl T.bEntries.p (okBookEntries T) (c.mono (by decide)) nogd T.bEntries.b rfl) pa_nil))), ?_⟩
  refine ⟨_, rfl, b, dx, _, rfl, hb, G, b, cc, rest, rfl, le, ib, fun e0 he => ?_⟩
  obtain ⟨ps, hq, rows⟩ := he.seq (K := K) le
  refine ⟨e0, _, rfl, .inr hq, ?_⟩
  rw [List.length_map, rows.length]
  exact q
abbrev vBookBool : List Str := ["self"]
abbrev pBookBool : List Str := ["self"]
theorem scBookBool : FnScope vBookBool pBookBool (defScope (inClass (top 54) 15)) := ⟨rfl, rfl, rfl, by decide +kernel, rfl, by decide +kernel, by decide +kernel⟩
def spBoolB : Sp := fun vs H Q _ => ∃ (b : Addr), vs = [.ref b] ∧ Q (.bl true) H
theorem okBookBool (T : TxtA K mg) : FnX P w K mg base CX0 false h 1 T.bBool.f T.bBool.fd pBookBool spBoolB := by
  refine funX0 (k := 0) T.bBool.F scBookBool (fun vs H Q E ⟨b, e, _⟩ => e ▸ rfl) fun cdv A outer s H vs Q E p c ⟨b, e, q⟩ => ?_
  subst e
  refine ⟨_, pss_one (ps_ret pe_bl), ?_⟩
  exact q
end
end Spf
end
section
set_option maxHeartbeats 4000000
/-! The book written: undo, lift, wish, put. -/
namespace Spf
open PySem PySem.Spec PyProof.Rows L2 L2H HotX LamX
/-- a def of the text whose code is named -/
theorem funXc {P : Program} {w : World} {K : PySem.W.Frag} {mg : Str → Option Value} {base : Heap} {CX : CXT} {g h : Bool} {k : Nat} {x qual : Str} {st : Stmt} {f : Addr} {fd : FuncData} {N ps : List Str} {sp : Sp} (F : Fun K x qual st f fd) (S : FnScope N ps (defScope st))
    (len : ∀ vs H Q E, sp vs H Q E → vs.length = ps.length)
    (hbody : ∀ (cdv : Value) (A : Around) (outer : List Env) (s : Shared) (H : Hp) (vs : List V) (Q : VK) (E : XK) (p : Addr × Obj), fd.code = cdv → Cxt (cxX CX P w K mg base N qual (defScope st) f cdv A outer s H E h p) g h k p → sp vs H Q E →
      ∃ t, PSs (cxX CX P w K mg base N qual (defScope st) f cdv A outer s H E h p) (defBody st) t ∧ t { nx := fun _ H' => Q .non H', rt := Q } (L2.start N vs) H) : FnX P w K mg base CX g h (k + 1) f fd ps sp := by
  obtain ⟨oc, od, kV, doc, pm, an, cdv, ct, osl, rfl, lk, hcd⟩ := F.ex
  exact fn_ofX lk hcd S len fun A outer s H vs Q E p c hsp => hbody cdv A outer s H vs Q E p rfl c hsp
/-- the tables that the written part holds -/
structure TabFacts (K : PySem.W.Frag) (mg : Str → Option Value) (base : Heap) (T : TxtA K mg) where
  cS : Addr
  PS : Addr
  cB : Addr
  PB : Addr
  cN : Addr
  PN : Addr
  codeS : T.bSet.fd.code = .ref cS
  codeB : T.l_behind.fd.code = .ref cB
  codeN : T.l_nested.fd.code = .ref cN
  tabS : TabB base mg cS PS
  tabB : TabB base mg cB PB
  tabN : TabB base mg cN PN
  nSB : PS ≠ PB
  nSN : PS ≠ PN
  nBN : PB ≠ PN
def lamQ (x y : Str) : Str := x ++ ".<locals>." ++ y
section
variable {K : PySem.W.Frag} {mg : Str → Option Value} {base : Heap} {T : TxtA K mg} (F : TabFacts K mg base T)
def TabFacts.TL : List (Addr × Str) := [(F.PS, lamQ "Book.__setitem__" "<lambda>"), (F.PB, lamQ "_law_behind" "<lambda>"), (F.PN, lamQ "_law_nested" "_law_act")]
theorem TabFacts.memS : (F.PS, lamQ "Book.__setitem__" "<lambda>") ∈ F.TL := List.mem_cons_self
theorem TabFacts.memB : (F.PB, lamQ "_law_behind" "<lambda>") ∈ F.TL := List.mem_cons_of_mem _ List.mem_cons_self
theorem TabFacts.memN : (F.PN, lamQ "_law_nested" "_law_act") ∈ F.TL := List.mem_cons_of_mem _ (List.mem_cons_of_mem _ List.mem_cons_self)
theorem TabFacts.unS : ∀ p ∈ F.TL, p.1 = F.PS → p.2 = lamQ "Book.__setitem__" "<lambda>" := fun p hp e => by
  simp only [TabFacts.TL, List.mem_cons, List.not_mem_nil, or_false] at hp
  rcases hp with rfl | rfl | rfl
  · rfl
  · exact absurd e.symm F.nSB
  · exact absurd e.symm F.nSN
theorem TabFacts.unB : ∀ p ∈ F.TL, p.1 = F.PB → p.2 = lamQ "_law_behind" "<lambda>" := fun p hp e => by
  simp only [TabFacts.TL, List.mem_cons, List.not_mem_nil, or_false] at hp
  rcases hp with rfl | rfl | rfl
  · exact absurd e F.nSB
  · rfl
  · exact absurd e.symm F.nBN
theorem TabFacts.unN : ∀ p ∈ F.TL, p.1 = F.PN → p.2 = lamQ "_law_nested" "_law_act" := fun p hp e => by
  simp only [TabFacts.TL, List.mem_cons, List.not_mem_nil, or_false] at hp
  rcases hp with rfl | rfl | rfl
  · exact absurd e F.nSN
  · exact absurd e F.nBN
  · rfl
end
/-! ### frames with tables -/
def NoTbl (G : Hp) : Prop := ∀ a ps, G a ≠ some (.tbl ps)
/-- all but b and the tables is kept -/
def FrB (b : Addr) (H H' : Hp) : Prop := ∀ a o, a ≠ b → (∀ ps, o ≠ .tbl ps) → H a = some o → H' a = some o
theorem FrB.refl (b : Addr) (H : Hp) : FrB b H H := fun _ _ _ _ h => h
theorem FrB.trans {b : Addr} {H H1 H2 : Hp} (x : FrB b H H1) (y : FrB b H1 H2) : FrB b H H2 := fun a o n t h => y a o n t (x a o n t h)
theorem FrB.ext {b : Addr} {H H' : Hp} (x : ExtN H H') : FrB b H H' := fun a o _ t h => x a o h t
theorem FrB.same {b : Addr} {H H' : Hp} (x : Same H H') : FrB b H H' := fun a o _ _ h => x a o h
theorem FrB.ex {b : Addr} {H H' : Hp} (x : Ex b H H') : FrB b H H' := fun a o n _ h => x a o n h
theorem FrB.put {b : Addr} {H H1 : Hp} {o : HO} (x : FrB b H H1) : FrB b H (upd H1 b o) := fun a u n t h => by rw [upd_ne n]; exact x a u n t h
theorem FrB.new {b a : Addr} {H H1 : Hp} {o : HO} (x : FrB b H H1) (h : H1 a = none) : FrB b H (upd H1 a o) := fun c u n t hc => by
  have := x c u n t hc
  rw [upd_ne (ne_of_none this h)]
  exact this
theorem ghostN {G H H' : Hp} (s : Same G H) (n : NoTbl G) (e : ExtN H H') : Same G H' := fun a o h => e a o (s a o h) fun ps z => n a ps (z ▸ h)
theorem ghostB {b : Addr} {G H H' : Hp} (s : Same G H) (n : NoTbl G) (hb : G b = none) (e : FrB b H H') : Same G H' := fun a o h => e a o (ne_of_none h hb) (fun ps z => n a ps (z ▸ h)) (s a o h)
theorem NoTbl.put {G : Hp} {a : Addr} {o : HO} (n : NoTbl G) (h : ∀ ps, o ≠ .tbl ps) : NoTbl (upd G a o) := fun b ps z => by
  by_cases e : b = a
  · subst e
    rw [upd_same] at z
    exact h ps (Option.some.inj z)
  · rw [upd_ne e] at z
    exact n b ps z
theorem tabs_put {T : List (Addr × Str)} {H : Hp} {b : Addr} {o u : HO} (t : Tabs T H) (hb : H b = some u) (hu : ∀ ps, u ≠ .tbl ps) (hc : ∀ c q, u ≠ CodeO c q) : Tabs T (upd H b o) := fun p hp => by
  obtain ⟨ps, h1, h2, h3⟩ := t p hp
  have n1 : p.1 ≠ b := fun e => by
    rw [e, hb] at h1
    exact hu ps (Option.some.inj h1)
  refine ⟨ps, by rw [upd_ne n1]; exact h1, h2, fun pos cv hcv => ?_⟩
  obtain ⟨c, e1, e2⟩ := h3 pos cv hcv
  have n2 : c ≠ b := fun e => by
    rw [e, hb] at e2
    exact hc _ _ (Option.some.inj e2)
  exact ⟨c, e1, by rw [upd_ne n2]; exact e2⟩
theorem tabs_ins {T : List (Addr × Str)} {H : Hp} {b C dx : Addr} {fs : List (Str × V)} {o : HO} (t : Tabs T H) (hb : H b = some (.ins C dx fs)) : Tabs T (upd H b o) := tabs_put t hb (fun ps z => by cases z) fun c q z => by unfold CodeO at z; cases z
theorem tabs_lst {T : List (Addr × Str)} {H : Hp} {b : Addr} {xs : List V} {o : HO} (t : Tabs T H) (hb : H b = some (.lst xs)) : Tabs T (upd H b o) := tabs_put t hb (fun ps z => by cases z) fun c q z => by unfold CodeO at z; cases z
/-- b changed its content, the rest is kept -/
theorem tabs_ex {T : List (Addr × Str)} {H H' : Hp} {b : Addr} {u : HO} (t : Tabs T H) (e : Ex b H H') (hb : H b = some u) (hu : ∀ ps, u ≠ .tbl ps) (hc : ∀ c q, u ≠ CodeO c q) : Tabs T H' := fun p hp => by
  obtain ⟨ps, h1, h2, h3⟩ := t p hp
  have n1 : p.1 ≠ b := fun e => by
    rw [e, hb] at h1
    exact hu ps (Option.some.inj h1)
  refine ⟨ps, e _ _ n1 h1, h2, fun pos cv hcv => ?_⟩
  obtain ⟨c, e1, e2⟩ := h3 pos cv hcv
  have n2 : c ≠ b := fun e => by
    rw [e, hb] at e2
    exact hc _ _ (Option.some.inj e2)
  exact ⟨c, e1, e _ _ n2 e2⟩
theorem wish_tail2 (w : Wish) : ∀ x ∈ (wishV w).drop 1, (∃ t, x = V.str t) ∨ ∃ k, x = V.int k := by
  cases w <;> simp [wishV]
def strV2 (hd : Held) : V → Bool
  | .str t => (look hd t).isNone
  | _ => false
theorem strV_wish2 (hd : Held) (w : Wish) : ((wishV w).drop 1).filter (strV2 hd) = (w.tags.filter fun t => (look hd t).isNone).map V.str := by
  cases w <;> simp only [wishV, Wish.tags, List.drop_succ_cons, List.drop_zero, List.filter_cons, List.filter_nil, strV2] <;> (try split) <;> (try split) <;> simp_all
theorem strange_is2 (hd : Held) (w : Wish) : strange hd w = (w.tags.filter fun t => (look hd t).isNone).head? := by
  unfold strange
  rw [List.head?_filter]
theorem putF_one (v x : V) : putF ("states" : Str) v [(("states" : Str), x)] = [(("states" : Str), v)] := by simp [putF]
/-- b stays an instance with its own dict -/
def DxK (CB : Addr) (b : Addr) (H H' : Hp) : Prop := ∀ dx fs, H b = some (.ins CB dx fs) → ∃ fs', H' b = some (.ins CB dx fs')
/-- what a deed leaves of the book -/
def BookEnd (T : List (Addr × Str)) (CB C : Addr) (H G : Hp) (b : Addr) (bs : List Snap) (k : Hp → Prop) : Prop := ∀ H' G' : Hp, FrB b H H' → Tabs T H' → Grow H G H' G' → IsBook CB C H' G' b bs → DxK CB b H H' → k H'
/-- the new states are stored -/
theorem book_end {T : List (Addr × Str)} {CB C : Addr} {H H1 G G1 : Hp} {b dx t t' : Addr} {bs : List Snap} {k : Hp → Prop} (q : BookEnd T CB C H G b bs k) (hb : H b = some (.ins CB dx [("states", .ref t)])) (gb : G b = none) (fr : FrB b H H1) (hb1 : H1 b = some (.ins CB dx [("states", .ref t)])) (hT : Tabs T H1)
    (g : Grow H G H1 G1) (ist : IsStates C G1 t' bs) : k (upd H1 b (.ins CB dx (putF "states" (.ref t') [("states", .ref t)]))) := by
  rw [putF_one]
  have g1b : G1 b = none := g.off hb gb fun ps z => by cases z
  refine q _ G1 fr.put (tabs_ins hT hb1) ⟨g.same, g.new, fun a o h => ?_⟩ ⟨dx, t', upd_same, ist⟩ fun dx' fs' e => by rw [hb] at e; cases e; exact ⟨_, upd_same⟩
  rw [upd_ne (ne_of_none h g1b)]
  exact g.le a o h
/-- one more state -/
theorem IsStates.push {C : Addr} {G : Hp} {t s : Addr} {ss : List Addr} {bs : List Snap} {c : Snap} (ht : G t = some (.tup (ss.map V.ref ++ [V.ref s]))) (h : Paired (IsSnap C G) ss bs.reverse) (hs : IsSnap C G s c) : IsStates C G t (c :: bs) :=
  ⟨ss ++ [s], by rw [ht]; simp, by rw [List.reverse_cons]; exact h.snoc hs⟩
section
variable {P : Program} {w : World} {K : PySem.W.Frag} {mg : Str → Option Value} {base : Heap}
/-! ### undo -/
abbrev vBookUndo : List Str := ["self"]
abbrev pBookUndo : List Str := ["self"]
theorem scBookUndo : FnScope vBookUndo pBookUndo (defScope (inClass (top 54) 10)) := ⟨rfl, rfl, rfl, by decide +kernel, rfl, by decide +kernel, by decide +kernel⟩
def spUndo (T : List (Addr × Str)) (CB C NU : Addr) : Sp := fun vs H Q E => ∃ (G : Hp) (b : Addr) (c : Snap) (rest : List Snap), vs = [.ref b] ∧ Same G H ∧ G b = none ∧ IsBook CB C H G b (c :: rest) ∧ Tabs T H ∧ (rest = [] → E (.ref NU) none H) ∧ (rest ≠ [] → BookEnd T CB C H G b rest (Q .non))
theorem cut_last (xs : List V) (x : V) : cutV (xs ++ [x]) none (some (-1)) = xs ∧ HT.sIx (xs ++ [x]).length (xs ++ [x]).length (some (-1)) = xs.length := by
  have e1 : HT.sIx (xs ++ [x]).length (xs ++ [x]).length (some (-1)) = xs.length := by
    show (if (-1 : Int) < 0 then ((-1 : Int) + ((xs ++ [x]).length : Int)).toNat else min (-1 : Int).toNat (xs ++ [x]).length) = _
    rw [if_pos (show (-1 : Int) < 0 by decide), List.length_append, List.length_singleton]
    omega
  refine ⟨?_, e1⟩
  unfold cutV
  rw [e1]
  show ((xs ++ [x]).drop 0).take (xs.length - 0) = _
  rw [List.drop_zero, Nat.sub_zero, List.take_left]
theorem okBookUndo (T : TxtA K mg) (TL : List (Addr × Str)) : FnX P w K mg base (L2N.CX P w) false false 3 T.bUndo.f T.bUndo.fd pBookUndo (spUndo TL T.Book.C T.Field.C T.NU) := by
  refine funX (k := 2) T.bUndo.F scBookUndo (fun vs H Q E ⟨G, b, c, r, e, _⟩ => e ▸ rfl) fun cdv A outer s H vs Q E p c ⟨G, b, cc, rest, e, le, gb, ib, hT, q1, q2⟩ => ?_
  subst e
  obtain ⟨dx, t, hb, ist⟩ := id ib
  refine ⟨_, pss_cons (ps_if (pt_cmpR op_eq (pe_propX (E := fun _ => E0) (pv 0) T.Book.cl T.bChanges.p (okBookChanges T) (c.mono (by decide)) nogd T.bChanges.b rfl) pe_int (nomark _)) (pss_one (L2N.ps_raise rfl tkN (own0_mk T.xNU rfl))) pss_nil)
      (pss_one (ps_fld (pv 0) (pe_slice sl_tupA (pe_fld (pv 0) rfl) po_none (po_some (pe_un un_neg pe_int))) rfl)), ?_⟩
  refine ⟨_, rfl, b, dx, _, rfl, hb, G, b, cc :: rest, rfl, le, ib, rfl, _, rfl, ?_⟩
  cases rest with
  | nil => exact ifT (by simp) (q1 rfl)
  | cons r rs =>
    have hne : ¬ (((cc :: r :: rs).length : Int) - 1 = 0) := by simp only [List.length_cons]; omega
    refine ifF (by simp only [decide_eq_false_iff_not]; exact fun z => hne (V.int.inj z)) ?_
    obtain ⟨ss, s0, h1, hs0, hss⟩ := ist.last
    have tp := SqT.of (K := K) (le _ _ h1)
    obtain ⟨hcut, hcut2⟩ := cut_last (ss.map V.ref) (V.ref s0)
    refine ⟨_, rfl, b, T.Book.C, dx, _, _, rfl, hb, T.Book.cl, T.noStates, states_f _, 1, rfl, -1, rfl, t, _, rfl, tp, fun ⟨_, z⟩ => ?_, fun _ x hx => ?_⟩
    · rw [hcut2] at z
      simp at z
    · have s1 := (Same.refl H).new (o := .tup (ss.map V.ref)) hx
      have h1x : upd H x (.tup (cutV (ss.map V.ref ++ [V.ref s0]) none (some (-1)))) x = some (.tup (ss.map V.ref)) := by rw [upd_same, hcut]
      have s1' := (Same.refl H).new (o := .tup (cutV (ss.map V.ref ++ [V.ref s0]) none (some (-1)))) hx
      refine ⟨_, rfl, b, T.Book.C, dx, _, rfl, s1' _ _ hb, T.Book.cl, T.noStates, by show 1 < 1000; decide, ?_⟩
      have gr := ((Grow.of le s1').add hx (le.free hx) h1x)
      exact book_end (q2 (by simp)) hb gb (FrB.same s1') (s1' _ _ hb) (hT.ext s1') gr ⟨ss, upd_same, hss.mono fun _ _ h => h.mono gr.same⟩
/-! ### lift -/
abbrev vBookLift : List Str := ["self", "index", "wishes"]
abbrev pBookLift : List Str := ["self", "index"]
theorem scBookLift : FnScope vBookLift pBookLift (defScope (inClass (top 54) 9)) := ⟨rfl, rfl, rfl, by decide +kernel, rfl, by decide +kernel, by decide +kernel⟩
def spLift (T : List (Addr × Str)) (CB C II : Addr) : Sp := fun vs H Q E => ∃ (G : Hp) (b : Addr) (c : Snap) (rest : List Snap) (i : Int), vs = [.ref b, .int i] ∧ Same G H ∧ G b = none ∧ IsBook CB C H G b (c :: rest) ∧ Tabs T H ∧ c.hopes.length ≤ 1000 ∧ rest.length ≤ 1000 ∧
  (¬ (0 ≤ i ∧ i < c.hopes.length) → ∀ (d : Addr) (H' : Hp), Same H H' → H' d = some (.xd [("given", .int i)]) → H d = none → E (.ref II) (some d) H') ∧
  (0 ≤ i ∧ i < c.hopes.length → BookEnd T CB C H G b (⟨c.held, c.hopes.take i.toNat ++ c.hopes.drop (i.toNat + 1)⟩ :: c :: rest) (Q .non))
theorem okBookLift (T : TxtA K mg) (TL : List (Addr × Str)) : FnX P w K mg base (L2N.CX P w) false false 4 T.bLift.f T.bLift.fd pBookLift (spLift TL T.Book.C T.Field.C T.II) := by
  refine funX (k := 3) T.bLift.F scBookLift (fun vs H Q E ⟨G, b, c, r, i, e, _⟩ => e ▸ rfl) fun cdv A outer s H vs Q E p c ⟨G, b, cc, rest, i, e, le, gb, ib, hT, hlen, hrl, q1, q2⟩ => ?_
  subst e
  obtain ⟨dx, t, hb, ist⟩ := id ib
  refine ⟨_, pss_cons (ps_if (pt_not (pt_val (pe_callX (okIsWithin T) (c.mono (by decide)) nogd rfl T.is_within.mg T.is_within.kp T.is_within.b at00 (pa_cons (pv 1) (pa_cons pe_int (pa_cons (pe_op op_sub (pe_callB call_len_seq (by rfl) T.len PySem.boot_len (pa_cons (pe_propX (E := fun _ => E0) (pv 0) T.Book.cl T.bWishes.p (okBookWishes T) (c.mono (by decide)) nogd T.bWishes.b rfl) pa_nil)) pe_int) pa_nil)))))) (pss_one (L2N.ps_raise rfl tkN (pmk_ex T.xII c.rm.room (pa_cons (pv 1) pa_nil) rfl))) pss_nil)
      (pss_cons (ps_set (i := 2) scBookLift.nd rfl (Or.inl rfl) (pe_op op_catA (pe_slice sl_tupA (pe_propX (E := fun _ => E0) (pv 0) T.Book.cl T.bWishes.p (okBookWishes T) (c.mono (by decide)) nogd T.bWishes.b rfl) po_none (po_some (pv 1))) (pe_slice sl_tupA (pe_propX (E := fun _ => E0) (pv 0) T.Book.cl T.bWishes.p (okBookWishes T) (c.mono (by decide)) nogd T.bWishes.b rfl) (po_some (pe_op op_add (pv 1) pe_int)) po_none)))
      (pss_one (ps_fld (pv 0) (pe_op op_catA (pe_fld (pv 0) rfl) (pe_tup (pa_cons (pe_tup (pa_cons (pe_propX (E := fun _ => E0) (pv 0) T.Book.cl T.bEntries.p (okBookEntries T) (c.mono (by decide)) nogd T.bEntries.b rfl) (pa_cons (pv 2) pa_nil))) pa_nil))) rfl))), ?_⟩
  refine ⟨_, rfl, _, rfl, b, dx, _, rfl, hb, G, b, cc, rest, rfl, le, ib, fun w0 ⟨qs, hw, pr⟩ => ?_⟩
  have tw := SqT.of (K := K) (le _ _ hw)
  have qsl : qs.length = cc.hopes.length := pr.length
  refine ⟨w0, _, rfl, .inr tw, _, _, rfl, rfl, _, _, _, rfl, _, rfl, ?_⟩
  have ed : decide ((0 : Int) ≤ i ∧ i ≤ ((qs.map V.ref).length : Int) - 1) = decide (0 ≤ i ∧ i < cc.hopes.length) := by
    rw [List.length_map, qsl]
    by_cases h : 0 ≤ i ∧ i < cc.hopes.length
    · rw [decide_eq_true h, decide_eq_true]; omega
    · rw [decide_eq_false h, decide_eq_false]; omega
  rw [ed]
  by_cases hin : 0 ≤ i ∧ i < cc.hopes.length
  · rw [decide_eq_true hin]
    refine ifF rfl ?_
    have q := q2 hin
    clear q1 q2
    obtain ⟨i0, hi0⟩ : ∃ i0 : Nat, i = i0 := ⟨i.toNat, by omega⟩
    subst hi0
    rw [Int.toNat_natCast] at q
    have hil : i0 < qs.length := by omega
    refine ⟨_, rfl, b, dx, _, rfl, hb, G, b, cc, rest, rfl, le, ib, fun w1 ⟨qs1, hw1, pr1⟩ => ?_⟩
    have tw1 := SqT.of (K := K) (le _ _ hw1)
    have qsl1 : qs1.length = cc.hopes.length := pr1.length
    refine ⟨_, rfl, _, rfl, w1, _, rfl, tw1, fun ⟨_, z⟩ => ?_, fun _ x1 hx1 => ?_⟩
    · rw [HT.sIx_nat, List.length_map] at z
      omega
    rw [cutV_to]
    have s1 := (Same.refl H).new (o := .tup ((qs1.map V.ref).take i0)) hx1
    have le1 := le.trans s1
    have ib1 : IsBook T.Book.C T.Field.C (upd H x1 (.tup ((qs1.map V.ref).take i0))) G b (cc :: rest) := ⟨dx, t, s1 _ _ hb, ist⟩
    refine ⟨_, rfl, b, dx, _, rfl, s1 _ _ hb, G, b, cc, rest, rfl, le1, ib1, fun w2 ⟨qs2, hw2, pr2⟩ => ?_⟩
    have tw2 := SqT.of (K := K) (le1 _ _ hw2)
    have qsl2 : qs2.length = cc.hopes.length := pr2.length
    refine ⟨_, rfl, _, _, rfl, rfl, ((i0 + 1 : Nat) : Int), rfl, w2, _, rfl, tw2, fun ⟨z, _⟩ => ?_, fun _ x2 hx2 => ?_⟩
    · rw [HT.sIx_nat, List.length_map] at z
      omega
    rw [cutV_from]
    have s2 := s1.new (o := .tup ((qs2.map V.ref).drop (i0 + 1))) hx2
    have n12 : x1 ≠ x2 := ne_of_none upd_same hx2
    -- the two parts together
    have cat : ∀ (Q' : VK), (∀ (x : Addr) (H3 : Hp), Same (upd (upd H x1 (.tup ((qs1.map V.ref).take i0))) x2 (.tup ((qs2.map V.ref).drop (i0 + 1)))) H3 → H3 x = some (.tup ((qs1.take i0 ++ qs2.drop (i0 + 1)).map V.ref)) → H x = none → Q' (.ref x) H3) → rCatA K (.ref x1) (.ref x2) (upd (upd H x1 (.tup ((qs1.map V.ref).take i0))) x2 (.tup ((qs2.map V.ref).drop (i0 + 1)))) Q' := by
      intro Q' hQ
      refine ⟨x1, x2, _, _, rfl, rfl, SqT.of (by rw [upd_ne n12, upd_same]), SqT.of upd_same, ?_, fun z => ?_, fun z1 z2 => ?_, fun z1 z2 x hx => ?_⟩
      · simp only [List.length_take, List.length_drop, List.length_map]
        exact szL (by omega)
      · refine hQ x2 _ (Same.refl _) ?_ (s1.free hx2)
        rw [upd_same, List.map_append, List.map_take, List.map_drop, z]
        rfl
      · refine hQ x1 _ (Same.refl _) ?_ hx1
        rw [upd_ne n12, upd_same, List.map_append, List.map_take, List.map_drop, z2, List.append_nil]
      · refine hQ x _ ((Same.refl _).new hx) ?_ (s2.free hx)
        rw [upd_same, List.map_append, List.map_take, List.map_drop]
    refine cat _ fun x H3 s3 h3x hx0 => ?_
    have s03 := s2.trans s3
    have pr3 : Paired (IsWish G) (qs1.take i0 ++ qs2.drop (i0 + 1)) (cc.hopes.take i0 ++ cc.hopes.drop (i0 + 1)) := paired_append (paired_take _ pr1) (paired_drop _ pr2)
    -- self.states + ((self.entries, wishes),)
    obtain ⟨ss, s0, h1, hs0, hss⟩ := ist.last
    have ib3 : IsBook T.Book.C T.Field.C H3 G b (cc :: rest) := ⟨dx, t, s03 _ _ hb, ist⟩
    refine ⟨_, rfl, b, T.Book.C, dx, _, _, rfl, s03 _ _ hb, T.Book.cl, T.noStates, states_f _, ?_⟩
    refine ⟨_, rfl, b, dx, _, rfl, s03 _ _ hb, G, b, cc, rest, rfl, le.trans s03, ib3, fun e7 he7 => ?_⟩
    refine ⟨_, rfl, szL (by show 2 ≤ 1000000; decide), fun y hy => ⟨szL (by show 1 ≤ 1000000; decide), fun z hz => ?_⟩⟩
    have gw := ((Grow.of le s03).add hx0 (le.free hx0) h3x)
    have sy := (Same.refl H3).new (o := .tup [.ref e7, .ref x]) hy
    have syz := sy.new (o := .tup [.ref y]) hz
    have nyz : y ≠ z := ne_of_none upd_same hz
    have tp := SqT.of (K := K) ((s03.trans syz) _ _ (le _ _ h1))
    have ssl : ss.length = rest.length := by rw [hss.length, List.length_reverse]
    refine ⟨t, z, _, _, rfl, rfl, tp, SqT.of upd_same, by simp only [List.length_append, List.length_map, List.length_singleton]; exact szL (by omega), fun zz => absurd zz (by simp), fun _ zz => absurd zz (by simp), fun _ _ t' ht' => ?_⟩
    have snew := (Same.refl (upd (upd H3 y (.tup [.ref e7, .ref x])) z (.tup [.ref y]))).new (o := .tup (ss.map V.ref ++ [V.ref s0] ++ [V.ref y])) ht'
    have s0z := s03.trans syz
    have s0t := s0z.trans snew
    refine ⟨_, rfl, b, T.Book.C, dx, _, rfl, s0t _ _ hb, T.Book.cl, T.noStates, by show 1 < 1000; decide, ?_⟩
    have hyz : upd (upd H3 y (.tup [.ref e7, .ref x])) z (.tup [.ref y]) y = some (.tup [.ref e7, .ref x]) := by rw [upd_ne nyz, upd_same]
    have gy0 : upd G x (.tup ((qs1.take i0 ++ qs2.drop (i0 + 1)).map V.ref)) y = none := gw.le.free hy
    have g2 := (gw.later syz).add (s03.free hy) gy0 hyz
    have gt0 : upd (upd G x (.tup ((qs1.take i0 ++ qs2.drop (i0 + 1)).map V.ref))) y (.tup [.ref e7, .ref x]) t' = none := g2.le.free ht'
    have g3 := (g2.later snew).add (s0z.free ht') gt0 upd_same
    refine book_end q hb gb (FrB.same s0t) (s0t _ _ hb) (hT.ext s0t) g3 ?_
    refine IsStates.push (ss := ss ++ [s0]) (s := y) (by rw [upd_same]; simp) ?_ ⟨e7, x, ?_, he7.mono g3.same, qs1.take i0 ++ qs2.drop (i0 + 1), ?_, pr3.mono fun _ _ h => h.mono g3.same⟩
    · rw [List.reverse_cons]
      exact (hss.mono fun _ _ h => h.mono g3.same).snoc (hs0.mono g3.same)
    · exact ((Same.refl _).new gt0) _ _ upd_same
    · exact (((Same.refl _).new gy0).new gt0) _ _ upd_same
  · rw [decide_eq_false hin]
    refine ifT rfl ?_
    exact ⟨_, rfl, _, rfl, fun d hd => q1 hin d _ ((Same.refl _).new hd) upd_same hd⟩
/-! ### wish -/
abbrev vBookWish : List Str := ["self", "wish", "name"]
abbrev pBookWish : List Str := ["self", "wish"]
theorem scBookWish : FnScope vBookWish pBookWish (defScope (inClass (top 54) 8)) := ⟨rfl, rfl, rfl, by decide +kernel, rfl, by decide +kernel, by decide +kernel⟩
def spWish (T : List (Addr × Str)) (CB C UN Br : Addr) : Sp := fun vs H Q E => ∃ (G : Hp) (b : Addr) (c : Snap) (rest : List Snap) (p : Addr) (w : Wish), vs = [.ref b, .ref p] ∧ Same G H ∧ G b = none ∧ IsBook CB C H G b (c :: rest) ∧ Tabs T H ∧ c.hopes.length ≤ 1000 ∧ rest.length ≤ 1000 ∧ c.held.length ≤ 1000 ∧ c.held ≠ [] ∧ (c.held.map (·.1)).Nodup ∧
  IsWish G p w ∧ (∀ t ∈ w.tags, NameOk t) ∧ (∀ w ∈ c.hopes, Named c.held w) ∧
  (∀ t, strange c.held w = some t → ∀ (d : Addr) (H' : Hp), Same H H' → H' d = some (.xd [("given", .str t)]) → H d = none → E (.ref UN) (some d) H') ∧
  (strange c.held w = none → ∀ k, brk c.held (c.hopes ++ [w]) = some k → ∀ (d : Addr) (H' : Hp), Same H H' → H' d = some (.xd [("index", .int k)]) → H d = none → E (.ref Br) (some d) H') ∧
  (strange c.held w = none → brk c.held (c.hopes ++ [w]) = none → BookEnd T CB C H G b (⟨c.held, c.hopes ++ [w]⟩ :: c :: rest) (Q .non))
theorem look_mem {hd : Held} {t : Str} : (look hd t).isNone = !decide (t ∈ hd.map (·.1)) := by
  induction hd with
  | nil => rfl
  | cons kv hd ih =>
    by_cases h : kv.1 = t
    · subst h; simp [look]
    · have e1 : look (kv :: hd) t = look hd t := by simp [look, h]
      have h' : ¬ t = kv.1 := fun z => h z.symm
      rw [e1, ih]
      simp [h']
theorem okBookWish (T : TxtA K mg) (TL : List (Addr × Str)) : FnX P w K mg base (L2N.CX P w) false false 12 T.bWish.f T.bWish.fd pBookWish (spWish TL T.Book.C T.Field.C T.UN T.Br) := by
  refine funX (k := 11) T.bWish.F scBookWish (fun vs H Q E ⟨G, b, c, r, p, w, e, _⟩ => e ▸ rfl) fun cdv A outer s H vs Q E p c ⟨G, b, cc, rest, pw, wi, e, le, gb, ib, hT, hlen, hrl, hhl, hne, hnd, iw, hok, nm, q1, q2, q3⟩ => ?_
  subst e
  obtain ⟨dx, t, hb, ist⟩ := id ib
  refine ⟨_, pss_cons (ps_if (pt_not (pt_val (pe_callX (okIsWish T) (c.mono (by decide)) nogd rfl T.is_wish.mg T.is_wish.kp T.is_wish.b at00 (pa_cons (pv 1) pa_nil)))) (pss_one ps_never) pss_nil)
      (pss_cons (ps_forX (passes_of rfl) c.md (pi_tupX (pe_slice sl_tupA (pv 1) (po_some pe_int) po_none)) (pg_name (i := 2) scBookWish.nd rfl (Or.inl rfl)) (pss_one (ps_if (PW.pt (pw_and (pt_not (pt_val (pe_callX (okIsInteger T) (c.mono (by decide)) nogd rfl T.is_integer.mg T.is_integer.kp T.is_integer.b at00 (pa_cons (pv 2) pa_nil)))) (pw_and1 (pt_cmpR op_notIn_seq (pv 2) (pe_propX (E := fun _ => E0) (pv 0) T.Book.cl T.bNames.p (okBookNames T) (c.mono (by decide)) nogd T.bNames.b rfl) (by rfl))))) (pss_one (L2N.ps_raise rfl tkN (pmk_ex T.xUN c.rm.room (pa_cons (pv 2) pa_nil) rfl))) pss_nil)))
      (pss_cons (ps_expr (pe_callX (okCheckWishes T) (c.mono (by decide)) nogd rfl T.check_wishes.mg T.check_wishes.kp T.check_wishes.b (fun σ => L2N.passAt tkN σ) (pa_cons (pe_propX (E := fun _ => E0) (pv 0) T.Book.cl T.bEntries.p (okBookEntries T) (c.mono (by decide)) nogd T.bEntries.b rfl) (pa_cons (pe_op op_catA (pe_propX (E := fun _ => E0) (pv 0) T.Book.cl T.bWishes.p (okBookWishes T) (c.mono (by decide)) nogd T.bWishes.b rfl) (pe_tup (pa_cons (pv 1) pa_nil))) pa_nil))))
      (pss_one (ps_fld (pv 0) (pe_op op_catA (pe_fld (pv 0) rfl) (pe_tup (pa_cons (pe_tup (pa_cons (pe_propX (E := fun _ => E0) (pv 0) T.Book.cl T.bEntries.p (okBookEntries T) (c.mono (by decide)) nogd T.bEntries.b rfl) (pa_cons (pe_op op_catA (pe_propX (E := fun _ => E0) (pv 0) T.Book.cl T.bWishes.p (okBookWishes T) (c.mono (by decide)) nogd T.bWishes.b rfl) (pe_tup (pa_cons (pv 1) pa_nil))) pa_nil))) pa_nil))) rfl)))), ?_⟩
  refine ⟨_, rfl, pw, wi, rfl, le _ _ iw.1, iw.2, hok, fun H1 s1 => ⟨_, rfl, ifF rfl ?_⟩⟩
  have wl := wish_len2 wi
  have tp := SqT.of (K := K) (s1 _ _ (le _ _ iw.1))
  have wcut : cutV (wishV wi) (some 1) none = (wishV wi).drop 1 := cutV_from (wishV wi) 1
  refine ⟨_, rfl, 1, rfl, pw, _, rfl, tp, fun ⟨z, _⟩ => ?_, fun _ tl htl => ?_⟩
  · exact absurd z (by show ¬ min 1 (wishV wi).length = 0; omega)
  rw [wcut]
  have s2 := s1.new (o := .tup ((wishV wi).drop 1)) htl
  have h2t := upd_same (H := H1) (a := tl) (o := .tup ((wishV wi).drop 1))
  generalize upd H1 tl (.tup ((wishV wi).drop 1)) = H2 at s2 h2t ⊢
  refine ⟨tl, rfl, ⟨_, SqT.of h2t⟩, for_tup (K := K) (xs := (wishV wi).drop 1) (fun i σ H' => Same H2 H' ∧ (∃ u, σ = [some (.ref b), some (.ref pw), u]) ∧ ∀ x ∈ ((wishV wi).drop 1).take i, strV2 cc.held x = false) ⟨Same.refl _, ⟨_, rfl⟩, fun x hx => by simp at hx⟩ (fun i σ H' _ h => h.1.seqT (SqT.of h2t)) ?_ ?_⟩
  · rintro i x σ H' hx ⟨s3, ⟨u, rfl⟩, hk⟩
    have s03 := s2.trans s3
    have tk : ((wishV wi).drop 1).take (i + 1) = ((wishV wi).drop 1).take i ++ [x] := by rw [List.take_add_one, hx]; rfl
    have hno : (((wishV wi).drop 1).take i).filter (strV2 cc.held) = [] := List.filter_eq_nil_iff.mpr fun y hy z => by rw [hk y hy] at z; cases z
    have ib3 : IsBook T.Book.C T.Field.C H' G b (cc :: rest) := ⟨dx, t, s03 _ _ hb, ist⟩
    rcases wish_tail2 wi x (List.mem_of_getElem? hx) with ⟨v, rfl⟩ | ⟨k, rfl⟩
    · refine ⟨_, rfl, .inr ⟨v, rfl, _, rfl, ifT rfl ?_⟩⟩
      refine ⟨_, rfl, _, rfl, b, dx, _, rfl, s03 _ _ hb, G, b, cc, rest, rfl, le.trans s03, ib3, hhl, fun l H4 s4 h4 _ => ⟨l, _, rfl, .inr (SqT.of h4), rfl, flat_strs _, ?_⟩⟩
      rw [inV_strs]
      have hsv : strV2 cc.held (.str v) = !decide (v ∈ cc.held.map (·.1)) := look_mem
      refine ⟨_, rfl, ?_⟩
      cases hd : decide (v ∈ cc.held.map (·.1)) with
      | true =>
        rw [hd] at hsv
        refine ifF rfl ⟨s3.trans s4, ⟨_, rfl⟩, fun y hy => ?_⟩
        rw [tk] at hy
        rcases List.mem_append.mp hy with hy | hy
        · exact hk y hy
        · rw [List.mem_singleton.mp hy]; exact hsv
      | false =>
        rw [hd] at hsv
        refine ifT rfl ⟨_, rfl, _, rfl, fun d hd0 => ?_⟩
        have s04 := s03.trans s4
        refine q1 v ?_ d _ (s04.new hd0) upd_same (s04.free hd0)
        have hf := strV_wish2 cc.held wi
        have split : (wishV wi).drop 1 = ((wishV wi).drop 1).take (i + 1) ++ ((wishV wi).drop 1).drop (i + 1) := (List.take_append_drop _ _).symm
        rw [strange_is2]
        rw [split, tk, List.filter_append, List.filter_append, hno] at hf
        have e3 : [V.str v].filter (strV2 cc.held) = [V.str v] := by simp [hsv]
        rw [e3] at hf
        cases hw : wi.tags.filter (fun t => (look cc.held t).isNone) with
        | nil => rw [hw] at hf; simp at hf
        | cons a as =>
          rw [hw] at hf
          simp only [List.nil_append, List.cons_append, List.map_cons, List.cons.injEq] at hf
          have := V.str.inj hf.1
          rw [this]
          rfl
    · refine ⟨_, rfl, .inl ⟨k, rfl, _, rfl, ifF rfl (ifF rfl ⟨s3, ⟨_, rfl⟩, fun y hy => ?_⟩)⟩⟩
      rw [tk] at hy
      rcases List.mem_append.mp hy with hy | hy
      · exact hk y hy
      · rw [List.mem_singleton.mp hy]; rfl
  · rintro σ H3 ⟨s3, ⟨u, rfl⟩, hk⟩
    rw [List.take_length] at hk
    have hst : strange cc.held wi = none := by
      have hf := strV_wish2 cc.held wi
      have hno : ((wishV wi).drop 1).filter (strV2 cc.held) = [] := List.filter_eq_nil_iff.mpr fun y hy z => by rw [hk y hy] at z; cases z
      rw [hno] at hf
      rw [strange_is2, List.map_eq_nil_iff.mp hf.symm]
      rfl
    have s03 := s2.trans s3
    have ib3 : IsBook T.Book.C T.Field.C H3 G b (cc :: rest) := ⟨dx, t, s03 _ _ hb, ist⟩
    have le3 := le.trans s03
    refine ⟨_, rfl, b, dx, _, rfl, s03 _ _ hb, G, b, cc, rest, rfl, le3, ib3, fun e0 he0 => ?_⟩
    refine ⟨_, rfl, b, dx, _, rfl, s03 _ _ hb, G, b, cc, rest, rfl, le3, ib3, fun w0 ⟨qs, hw, pr⟩ => ?_⟩
    have tw := SqT.of (K := K) (le3 _ _ hw)
    have qsl : qs.length = cc.hopes.length := pr.length
    refine ⟨_, rfl, szL (by show 1 ≤ 1000000; decide), fun x1 hx1 => ?_⟩
    have s4 := (Same.refl H3).new (o := .tup [.ref pw]) hx1
    have cat : ∀ (H3 : Hp) (w0 x1 : Addr) (qs : List Addr) (Q' : VK), SqT K H3 w0 (qs.map V.ref) → qs.length ≤ 1000 → H3 x1 = some (.tup [.ref pw]) → (∀ (x : Addr) (H4 : Hp), Same H3 H4 → H4 x = some (.tup ((qs ++ [pw]).map V.ref)) → (qs = [] → x = x1) → (qs ≠ [] → H3 x = none) → Q' (.ref x) H4) → rCatA K (.ref w0) (.ref x1) H3 Q' := by
      intro H3 w0 x1 qs Q' hw0 hql hx1 hQ
      refine ⟨w0, x1, _, _, rfl, rfl, hw0, SqT.of hx1, by rw [List.length_map]; exact szL (by show qs.length + 1 ≤ 1000000; omega), fun z => ?_, fun z1 z2 => absurd z2 (by simp), fun z1 z2 x hx => ?_⟩
      · have : qs = [] := List.map_eq_nil_iff.mp z
        subst this
        exact hQ x1 H3 (Same.refl _) hx1 (fun _ => rfl) (fun z => absurd rfl z)
      · have : qs ≠ [] := fun e => z1 (by rw [e]; rfl)
        exact hQ x _ ((Same.refl _).new hx) (by rw [upd_same]; simp) (fun e => absurd e this) (fun _ => hx)
    refine cat _ w0 x1 qs _ (s4.seqT tw) (by omega) upd_same fun x H4 s5 h4x hxe hxn => ?_
    have s35 := s4.trans s5
    have s05 := s03.trans s35
    have x0 : H x = none := by
      by_cases hq : qs = []
      · rw [hxe hq]; exact s03.free hx1
      · exact (s03.trans s4).free (hxn hq)
    -- check_wishes(self.entries, self.wishes + (wish,))
    have hnil : ∀ {e : Addr}, IsEntT T.Field.C G e cc.held → ∃ (o : Obj) (ps : List Addr), G e = some (.frz o (.tup (ps.map V.ref))) ∧ o.dict = none ∧ Paired (IsRow T.Field.C G) ps cc.held := fun h => by
      rcases h with ⟨h, _⟩ | h
      · exact absurd h hne
      · exact h
    obtain ⟨o, ps, he1, he2, rows⟩ := hnil he0
    have nm2 : ∀ w' ∈ cc.hopes ++ [wi], Named cc.held w' := fun w' hw => by
      rcases List.mem_append.mp hw with hw | hw
      · exact nm w' hw
      · rw [List.mem_singleton.mp hw]
        intro t ht
        have := List.find?_eq_none.mp hst t ht
        cases e : look cc.held t <;> simp_all
    have le5 := le.trans s05
    refine ⟨G, e0, x, o, ps, qs ++ [pw], cc.held, cc.hopes ++ [wi], rfl, le5, le5 _ _ he1, he2, rows, hnd, h4x, pr.snoc iw, nm2, fun H6 s6 hb6 => ?_, fun k d H6 s6 hb6 hd6 hd0 => ?_⟩
    · have s06 := s05.trans s6
      have le6 := le.trans s06
      have ib6 : IsBook T.Book.C T.Field.C H6 G b (cc :: rest) := ⟨dx, t, s06 _ _ hb, ist⟩
      have q := q3 hst hb6
      obtain ⟨ss, s0, h1, hs0, hss⟩ := ist.last
      refine ⟨_, rfl, b, T.Book.C, dx, _, _, rfl, s06 _ _ hb, T.Book.cl, T.noStates, states_f _, ?_⟩
      refine ⟨_, rfl, b, dx, _, rfl, s06 _ _ hb, G, b, cc, rest, rfl, le6, ib6, fun e7 he7 => ?_⟩
      refine ⟨_, rfl, b, dx, _, rfl, s06 _ _ hb, G, b, cc, rest, rfl, le6, ib6, fun w7 ⟨qs7, hw7, pr7⟩ => ?_⟩
      refine ⟨_, rfl, szL (by show 1 ≤ 1000000; decide), fun x7 hx7 => ?_⟩
      have s7 := (Same.refl H6).new (o := .tup [.ref pw]) hx7
      have qsl7 : qs7.length = cc.hopes.length := pr7.length
      refine cat _ w7 x7 qs7 _ (s7.seqT (SqT.of (le6 _ _ hw7))) (by omega) upd_same fun xw H3 s8 h3x hxe7 hxn7 => ?_
      have s03 := s06.trans (s7.trans s8)
      have hx0 : H xw = none := by
        by_cases hq : qs7 = []
        · rw [hxe7 hq]; exact s06.free hx7
        · exact (s06.trans s7).free (hxn7 hq)
      refine ⟨szL (by show 2 ≤ 1000000; decide), fun y hy => ⟨szL (by show 1 ≤ 1000000; decide), fun z hz => ?_⟩⟩
      have gw := ((Grow.of le s03).add hx0 (le.free hx0) h3x)
      have pr3 : Paired (IsWish G) (qs7 ++ [pw]) (cc.hopes ++ [wi]) := pr7.snoc iw
      have sy := (Same.refl H3).new (o := .tup [.ref e7, .ref xw]) hy
      have syz := sy.new (o := .tup [.ref y]) hz
      have nyz : y ≠ z := ne_of_none upd_same hz
      have tp := SqT.of (K := K) ((s03.trans syz) _ _ (le _ _ h1))
      have ssl : ss.length = rest.length := by rw [hss.length, List.length_reverse]
      refine ⟨t, z, _, _, rfl, rfl, tp, SqT.of upd_same, by simp only [List.length_append, List.length_map, List.length_singleton]; exact szL (by omega), fun zz => absurd zz (by simp), fun _ zz => absurd zz (by simp), fun _ _ t' ht' => ?_⟩
      have snew := (Same.refl (upd (upd H3 y (.tup [.ref e7, .ref xw])) z (.tup [.ref y]))).new (o := .tup (ss.map V.ref ++ [V.ref s0] ++ [V.ref y])) ht'
      have s0z := s03.trans syz
      have s0t := s0z.trans snew
      refine ⟨_, rfl, b, T.Book.C, dx, _, rfl, s0t _ _ hb, T.Book.cl, T.noStates, by show 1 < 1000; decide, ?_⟩
      have hyz : upd (upd H3 y (.tup [.ref e7, .ref xw])) z (.tup [.ref y]) y = some (.tup [.ref e7, .ref xw]) := by rw [upd_ne nyz, upd_same]
      have gy0 : upd G xw (.tup ((qs7 ++ [pw]).map V.ref)) y = none := gw.le.free hy
      have g2 := (gw.later syz).add (s03.free hy) gy0 hyz
      have gt0 : upd (upd G xw (.tup ((qs7 ++ [pw]).map V.ref))) y (.tup [.ref e7, .ref xw]) t' = none := g2.le.free ht'
      have g3 := (g2.later snew).add (s0z.free ht') gt0 upd_same
      refine book_end q hb gb (FrB.same s0t) (s0t _ _ hb) (hT.ext s0t) g3 ?_
      refine IsStates.push (ss := ss ++ [s0]) (s := y) (by rw [upd_same]; simp) ?_ ⟨e7, xw, ?_, he7.mono g3.same, qs7 ++ [pw], ?_, pr3.mono fun _ _ h => h.mono g3.same⟩
      · rw [List.reverse_cons]
        exact (hss.mono fun _ _ h => h.mono g3.same).snoc (hs0.mono g3.same)
      · exact ((Same.refl _).new gt0) _ _ upd_same
      · exact (((Same.refl _).new gy0).new gt0) _ _ upd_same
    · exact q2 hst k hb6 d H6 (s05.trans s6) hd6 (s05.free hd0)
end
end Spf
end
section
set_option maxHeartbeats 4000000
/-! The book written: put. -/
namespace Spf
open PySem PySem.Spec PyProof.Rows L2 L2H HotX LamX
def nameLe (a b : Str) : Bool := decide (a.cps.toList ≤ b.cps.toList)
/-- entries in the order of their names -/
def sortH (hd : Held) : Held := hd.mergeSort fun a b => nameLe a.1 b.1
/-- an entry put into sorted ones -/
def putS (hd : Held) (t : Str) (e : Ent) : Held := sortH ((hd.filter fun kv => decide (kv.1 ≠ t)) ++ [(t, e)])
theorem paired_zip {α β : Type} {F : α → β → Prop} : ∀ {ps : List α} {hd : List β}, Paired F ps hd → ∃ xs : List (α × β), ps = xs.map (·.1) ∧ hd = xs.map (·.2) ∧ ∀ x ∈ xs, F x.1 x.2
  | _, _, .nil => ⟨[], rfl, rfl, fun _ h => nomatch h⟩
  | p :: _, h :: _, .cons a r => by
    obtain ⟨xs, e1, e2, e3⟩ := paired_zip r
    refine ⟨(p, h) :: xs, by rw [e1]; rfl, by rw [e2]; rfl, fun x hx => ?_⟩
    rcases List.mem_cons.mp hx with hx | hx
    · rw [hx]; exact a
    · exact e3 x hx
theorem paired_unzip {α β : Type} {F : α → β → Prop} : ∀ {xs : List (α × β)}, (∀ x ∈ xs, F x.1 x.2) → Paired F (xs.map (·.1)) (xs.map (·.2))
  | [], _ => .nil
  | x :: xs, h => .cons (h x List.mem_cons_self) (paired_unzip fun y hy => h y (List.mem_cons_of_mem _ hy))
theorem putS_nodup {hd : Held} {t : Str} {e : Ent} (h : (hd.map (·.1)).Nodup) : ((putS hd t e).map (·.1)).Nodup := by
  have p : (putS hd t e).Perm ((hd.filter fun kv => decide (kv.1 ≠ t)) ++ [(t, e)]) := List.mergeSort_perm _ _
  rw [(p.map (·.1)).nodup_iff, List.map_append]
  refine List.nodup_append.mpr ⟨List.Pairwise.sublist (List.Sublist.map _ List.filter_sublist) h, by simp, fun x hx y hy => ?_⟩
  obtain ⟨kv, hkv, rfl⟩ := List.mem_map.mp hx
  have hy' : y = t := by simpa using hy
  subst hy'
  have := (List.mem_filter.mp hkv).2
  exact of_decide_eq_true this
section
variable {P : Program} {w : World} {K : PySem.W.Frag} {mg : Str → Option Value} {base : Heap}
abbrev vBookSetitem : List Str := ["self", "name", "value", "others", "entry", "entries"]
abbrev pBookSetitem : List Str := ["self", "name", "value"]
theorem scBookSetitem : FnScope vBookSetitem pBookSetitem (defScope (inClass (top 54) 5)) := ⟨rfl, rfl, rfl, by decide +kernel, rfl, by decide +kernel, by decide +kernel⟩
def spPut (TL : List (Addr × Str)) (CB C Br : Addr) : Sp := fun vs H Q E => ∃ (G : Hp) (b v : Addr) (c : Snap) (rest : List Snap) (t : Str) (e : Ent), vs = [.ref b, .str t, .ref v] ∧ Same G H ∧ NoTbl G ∧ G b = none ∧ IsBook CB C H G b (c :: rest) ∧ Tabs TL H ∧ rest.length ≤ 1000 ∧ c.held.length ≤ 100 ∧ (c.held.map (·.1)).Nodup ∧
  IsVal C G v e ∧ NameOk t ∧ (∀ w ∈ c.hopes, Named (putS c.held t e) w) ∧
  (∀ k, brk (putS c.held t e) c.hopes = some k → ∀ (d : Addr) (H' : Hp), ExtN H H' → Tabs TL H' → H' d = some (.xd [("index", .int k)]) → Fresh H d → E (.ref Br) (some d) H') ∧
  (brk (putS c.held t e) c.hopes = none → BookEnd TL CB C H G b (⟨putS c.held t e, c.hopes⟩ :: c :: rest) (Q .non))
theorem okBookSetitem (T : TxtA K mg) (F : TabFacts K mg base T) : FnX P w K mg base (L2N.CX P w) false false 12 T.bSet.f T.bSet.fd pBookSetitem (spPut F.TL T.Book.C T.Field.C T.Br) := by
  refine funXc (k := 11) T.bSet.F scBookSetitem (fun vs H Q E ⟨G, b, v, c, r, t, e, eq, _⟩ => eq ▸ rfl) fun cdv A outer s H vs Q E p hcd c ⟨G, b, v, cc, rest, t, e, eq, le, nt, gb, ib, hT, hrl, hhl, hnd, hval, hok, nm, q1, q2⟩ => ?_
  subst eq
  have hc : (cxX (L2N.CX P w) P w K mg base vBookSetitem "Book.__setitem__" (defScope (inClass (top 54) 5)) T.bSet.f cdv A outer s H E false p).env.code = .ref F.cS := hcd.symm.trans F.codeS
  obtain ⟨dx, t0, hb, ist⟩ := id ib
  refine ⟨_, pss_cons (ps_expr (pe_callX (okCheckName T) (c.mono (by decide)) nogd rfl T.check_name.mg T.check_name.kp T.check_name.b at00 (pa_cons (pv 1) pa_nil)))
      (pss_cons (ps_if (pt_not (pt_val (pe_callX (okIsEntry T) (c.mono (by decide)) nogd rfl T.is_entry.mg T.is_entry.kp T.is_entry.b at00 (pa_cons (pv 2) pa_nil)))) (pss_one ps_never) pss_nil)
      (pss_cons (ps_setLc (i := 3) rfl (own := [("entry", 4)]) (g := gName 4) scBookSetitem.nd rfl rfl (sw_true rfl rfl rfl (by decide +kernel)) (pi_tup (pe_propX (E := fun _ => E0) (pv 0) T.Book.cl T.bEntries.p (okBookEntries T) (c.mono (by decide)) nogd T.bEntries.b rfl)) (blkOk_by (N := vBookSetitem) (sc := defScope (inClass (top 54) 5)) (by decide +kernel)) (fun _ _ _ _ _ => (pg_name (i := 4) scBookSetitem.nd rfl (Or.inl rfl))) (fun _ _ _ _ _ => (pts_one (pt_cmpR op_ne (pe_ix (ix_tupK K) (pv 4) pe_int (fun _ _ => rfl)) (pv 1) (nomark _)))) (fun _ _ _ _ _ => (pv 4)))
      (pss_cons (ps_set (i := 5) scBookSetitem.nd rfl (Or.inl rfl) (pe_callTy call_tupF (by rfl) T.tuple (by decide +kernel) (pa_cons (pe_sortK (T := F.TL) (pe_op op_cat (pv 3) (pe_lst (pa_cons (pe_tup (pa_cons (pv 1) (pa_cons (pv 2) pa_nil))) pa_nil))) c rfl T.sorted F.tabS hc F.memS F.unS rfl (fun _ _ _ _ _ _ => rfl) rfl) pa_nil)))
      (pss_cons (ps_expr (pe_callX (okCheckWishes T) (c.mono (by decide)) nogd rfl T.check_wishes.mg T.check_wishes.kp T.check_wishes.b (fun σ => L2N.passAt tkN σ) (pa_cons (pv 5) (pa_cons (pe_propX (E := fun _ => E0) (pv 0) T.Book.cl T.bWishes.p (okBookWishes T) (c.mono (by decide)) nogd T.bWishes.b rfl) pa_nil))))
      (pss_one (ps_fld (pv 0) (pe_op op_catA (pe_fld (pv 0) rfl) (pe_tup (pa_cons (pe_tup (pa_cons (pv 5) (pa_cons (pe_propX (E := fun _ => E0) (pv 0) T.Book.cl T.bWishes.p (okBookWishes T) (c.mono (by decide)) nogd T.bWishes.b rfl) pa_nil))) pa_nil))) rfl)))))), ?_⟩
  refine ⟨_, rfl, t, rfl, hok, fun H1 s1 => ?_⟩
  refine ⟨_, rfl, v, e, rfl, hval.mono (le.trans s1), fun H2 s2' => ⟨_, rfl, ifF rfl ?_⟩⟩
  have s2 := s1.trans s2'
  have le2 := le.trans s2
  have ib2 : IsBook T.Book.C T.Field.C H2 G b (cc :: rest) := ⟨dx, t0, s2 _ _ hb, ist⟩
  refine ⟨_, rfl, b, dx, _, rfl, s2 _ _ hb, G, b, cc, rest, rfl, le2, ib2, fun e0 he0 => ?_⟩
  obtain ⟨ps, hq, rows⟩ := he0.seq (K := K) le2
  obtain ⟨xs, hxs1, hxs2, hxs⟩ := paired_zip rows
  subst hxs1
  have hxl : xs.length ≤ 100 := by have := congrArg List.length hxs2; rw [List.length_map] at this; omega
  refine ⟨e0, rfl, ⟨_, hq⟩, fun D hD => ?_⟩
  refine lc_tup (K := K) (xs := (xs.map (·.1)).map V.ref) (fun i H' => Same H2 H' ∧ H' D = some (.lst ((((xs.take i).filter fun x => decide (x.2.1 ≠ t)).map (·.1)).map V.ref))) ⟨(Same.refl _).new hD, upd_same⟩ (fun i H' _ h => h.1.seqT hq) ?_ ?_
  · rintro i x H' hx ⟨sx, hDx⟩
    rw [List.getElem?_map, List.getElem?_map] at hx
    cases hxi : xs[i]? with
    | none => rw [hxi] at hx; cases hx
    | some xi =>
      rw [hxi] at hx
      cases hx
      obtain ⟨v', hrow, _⟩ := hxs xi (List.mem_of_getElem? hxi)
      have tk : xs.take (i + 1) = xs.take i ++ [xi] := by rw [List.take_add_one, hxi]; rfl
      refine ⟨rfl, _, rfl, xi.1, _, _, _, rfl, rfl, SqT.of (sx _ _ (le2 _ _ hrow)), rfl, _, rfl, rfl, _, rfl, ?_⟩
      have ed : (!decide (V.str xi.2.1 = V.str t)) = decide (xi.2.1 ≠ t) := by simp
      rw [ed, tk, List.filter_append]
      by_cases hne : xi.2.1 ≠ t
      · refine ifT (decide_eq_true hne) ⟨_, rfl, _, hDx, ?_, fun a o ha => ?_, ?_⟩
        · simp only [List.length_map]
          refine Nat.lt_of_le_of_lt (List.length_filter_le _ _) ?_
          rw [List.length_take, sizeLine_eq]; omega
        · rw [upd_ne (ne_of_none ha hD)]
          exact sx _ _ ha
        · rw [upd_same]
          simp [hne]
      · refine ifF (decide_eq_false hne) ⟨sx, ?_⟩
        rw [hDx]
        simp [hne]
  rintro H3 ⟨s3, hD3⟩
  rw [List.length_map, List.length_map, List.take_length] at hD3
  have s03 := s2.trans s3
  -- others + [(name, value)]
  refine ⟨_, rfl, _, rfl, _, rfl, szL (by show 2 ≤ 1000000; decide), fun p0 hp0 => ⟨szL (by show 1 ≤ 1000000; decide), fun l1 hl1 => ?_⟩⟩
  have t1 := (Same.refl H3).new (o := .tup [.str t, .ref v]) hp0
  have t2 := t1.new (o := .lst [.ref p0]) hl1
  have n01 : p0 ≠ l1 := ne_of_none upd_same hl1
  have h4p : upd (upd H3 p0 (.tup [.str t, .ref v])) l1 (.lst [.ref p0]) p0 = some (.tup [.str t, .ref v]) := by rw [upd_ne n01, upd_same]
  refine ⟨D, l1, _, _, rfl, rfl, t2 _ _ hD3, upd_same, ?_, fun l2 hl2 => ?_⟩
  · simp only [List.length_map, List.length_singleton]
    have := List.length_filter_le (fun x : Addr × Str × Ent => decide (x.2.1 ≠ t)) xs
    exact szL (by omega)
  let ys : List (Addr × Str × Ent) := xs.filter (fun x => decide (x.2.1 ≠ t)) ++ [(p0, (t, e))]
  have hys : ((((xs.filter fun x => decide (x.2.1 ≠ t)).map (·.1)).map V.ref) ++ [V.ref p0]) = ((ys.map fun x => (x.1, x.2.1)).map fun b => V.ref b.1) := by
    simp [ys, Function.comp_def]
  have t3 := t2.new (o := .lst ((((xs.filter fun x => decide (x.2.1 ≠ t)).map (·.1)).map V.ref) ++ [V.ref p0])) hl2
  have h4l := upd_same (H := upd (upd H3 p0 (.tup [.str t, .ref v])) l1 (.lst [.ref p0])) (a := l2) (o := .lst ((((xs.filter fun x => decide (x.2.1 ≠ t)).map (·.1)).map V.ref) ++ [V.ref p0]))
  have h4p' := ((Same.refl _).new hl2 : Same _ (upd (upd (upd H3 p0 (.tup [.str t, .ref v])) l1 (.lst [.ref p0])) l2 (.lst ((((xs.filter fun x => decide (x.2.1 ≠ t)).map (·.1)).map V.ref) ++ [V.ref p0])))) _ _ h4p
  generalize upd (upd (upd H3 p0 (.tup [.str t, .ref v])) l1 (.lst [.ref p0])) l2 (.lst ((((xs.filter fun x => decide (x.2.1 ≠ t)).map (·.1)).map V.ref) ++ [V.ref p0])) = H4 at t3 h4l h4p' ⊢
  rw [hys] at h4l
  have s04 := s03.trans t3
  have le4 := le.trans s04
  have g4 : Grow H G H4 (upd G p0 (.tup [.str t, .ref v])) := (Grow.of le s04).add (s03.free hp0) (le.free (s03.free hp0)) h4p'
  have yl : ys.length ≤ 101 := by
    have := List.length_filter_le (fun x : Addr × Str × Ent => decide (x.2.1 ≠ t)) xs
    simp only [ys, List.length_append, List.length_singleton]
    omega
  have rowG : ∀ x ∈ ys, IsRow T.Field.C (upd G p0 (.tup [.str t, .ref v])) x.1 x.2 := fun x hx => by
    rcases List.mem_append.mp hx with hx | hx
    · exact (hxs x (List.mem_filter.mp hx).1).mono g4.same
    · rw [List.mem_singleton.mp hx]
      exact ⟨v, upd_same, hval.mono g4.same⟩
  refine ⟨hT.ext s04, l2, ys.map fun x => (x.1, x.2.1), rfl, SqL.of h4l, by rw [List.length_map]; omega, fun bb hbb => ?_, fun D5 H5 eN T5 hD5 => ?_⟩
  · obtain ⟨x, hx, rfl⟩ := List.mem_map.mp hbb
    obtain ⟨v', h1, _⟩ := rowG x hx
    exact ⟨.ref v', SqT.of (g4.le _ _ h1)⟩
  let zs := ys.mergeSort fun a b => nameLe a.2.1 b.2.1
  have hzs1 : (rowSort (ys.map fun x => (x.1, x.2.1))).map (fun b => V.ref b.1) = (zs.map (·.1)).map V.ref := by
    have : rowSort (ys.map fun x => (x.1, x.2.1)) = zs.map fun x => (x.1, x.2.1) := by
      unfold rowSort
      exact (List.map_mergeSort (f := fun x : Addr × Str × Ent => (x.1, x.2.1)) (fun a _ b _ => rfl)).symm
    rw [this]
    simp [Function.comp_def]
  have hzs2 : zs.map (·.2) = putS cc.held t e := by
    unfold putS sortH
    have h2 : ys.map (·.2) = (cc.held.filter fun kv => decide (kv.1 ≠ t)) ++ [(t, e)] := by
      simp only [ys, List.map_append, List.map_cons, List.map_nil]
      rw [hxs2, List.filter_map]
      rfl
    rw [← h2]
    exact List.map_mergeSort (f := fun x : Addr × Str × Ent => x.2) (fun a _ b _ => rfl)
  have zmem : ∀ x ∈ zs, x ∈ ys := fun x hx => (List.mergeSort_perm ys _).mem_iff.mp hx
  have zlen : zs.length = ys.length := (List.mergeSort_perm ys _).length_eq
  rw [hzs1]
  have e05 : ExtN H4 (upd H5 D5 (.lst ((zs.map (·.1)).map V.ref))) := fun a o ha hn => by
    have := eN a o ha hn
    rw [upd_ne (ne_of_none this hD5)]
    exact this
  refine ⟨D5, _, rfl, SqL.of upd_same, fun e8 o8 he8 hod => ?_⟩
  have T8 : Tabs F.TL (upd (upd H5 D5 (.lst ((zs.map (·.1)).map V.ref))) e8 (.frz o8 (.tup ((zs.map (·.1)).map V.ref)))) := (T5.ext ((Same.refl _).new hD5)).ext ((Same.refl _).new he8)
  have e08 : ExtN H4 (upd (upd H5 D5 (.lst ((zs.map (·.1)).map V.ref))) e8 (.frz o8 (.tup ((zs.map (·.1)).map V.ref)))) := fun a o ha hn => by
    have := e05 a o ha hn
    rw [upd_ne (ne_of_none this he8)]
    exact this
  have h8e := upd_same (H := upd H5 D5 (.lst ((zs.map (·.1)).map V.ref))) (a := e8) (o := .frz o8 (.tup ((zs.map (·.1)).map V.ref)))
  have fr8 : Fresh H e8 := Fresh.ext ((ExtN.of s04).trans e05) (.of he8)
  have g0n : NoTbl (upd G p0 (.tup [.str t, .ref v])) := nt.put fun ps z => by cases z
  have ge8 : upd G p0 (.tup [.str t, .ref v]) e8 = none := by
    cases hg : upd G p0 (.tup [.str t, .ref v]) e8 with
    | none => rfl
    | some o =>
      have := e05 _ _ (g4.le _ _ hg) fun ps z => g0n e8 ps (z ▸ hg)
      rw [he8] at this
      cases this
  generalize upd (upd H5 D5 (.lst ((zs.map (·.1)).map V.ref))) e8 (.frz o8 (.tup ((zs.map (·.1)).map V.ref))) = H8 at T8 e08 h8e ⊢
  have x08 : ExtN H H8 := (ExtN.of s04).trans e08
  have hb8 : H8 b = some (.ins T.Book.C dx [("states", .ref t0)]) := x08 _ _ hb fun ps z => by cases z
  have le8 : Same (upd G p0 (.tup [.str t, .ref v])) H8 := ghostN g4.le g0n e08
  have gr8 : Grow H G H8 (upd G p0 (.tup [.str t, .ref v])) := ⟨g4.same, g4.new, le8⟩
  have gr9 := gr8.addF fr8 ge8 h8e
  have le80 : Same G H8 := gr8.same.trans gr8.le
  have ib8 : IsBook T.Book.C T.Field.C H8 G b (cc :: rest) := ⟨dx, t0, hb8, ist⟩
  refine ⟨_, rfl, _, rfl, b, dx, _, rfl, hb8, G, b, cc, rest, rfl, le80, ib8, fun w0 ⟨qs, hw, pr⟩ => ?_⟩
  have rowsZ : Paired (IsRow T.Field.C (upd (upd G p0 (.tup [.str t, .ref v])) e8 (.frz o8 (.tup ((zs.map (·.1)).map V.ref))))) (zs.map (·.1)) (putS cc.held t e) := by
    rw [← hzs2]
    exact paired_unzip fun x hx => (rowG x (zmem x hx)).mono ((Same.refl _).new ge8)
  refine ⟨upd (upd G p0 (.tup [.str t, .ref v])) e8 (.frz o8 (.tup ((zs.map (·.1)).map V.ref))), e8, w0, o8, zs.map (·.1), qs, putS cc.held t e, cc.hopes, rfl, gr9.le, h8e, hod, rowsZ, putS_nodup hnd, le80 _ _ hw, pr.mono fun _ _ h => h.mono gr9.same, nm, fun H9 s9 hb9 => ?_, fun k d H9 s9 hb9 hd9 hd0 => ?_⟩
  · have q := q2 hb9
    have hbH9 := s9 _ _ hb8
    obtain ⟨ss, s0, h1, hs0, hss⟩ := ist.last
    have le9 := le80.trans s9
    have ib9 : IsBook T.Book.C T.Field.C H9 G b (cc :: rest) := ⟨dx, t0, hbH9, ist⟩
    refine ⟨_, rfl, b, T.Book.C, dx, _, _, rfl, hbH9, T.Book.cl, T.noStates, states_f _, ?_⟩
    refine ⟨_, rfl, _, rfl, b, dx, _, rfl, hbH9, G, b, cc, rest, rfl, le9, ib9, fun w9 hw9 => ?_⟩
    refine ⟨szL (by show 2 ≤ 1000000; decide), fun y hy => ⟨szL (by show 1 ≤ 1000000; decide), fun z hz => ?_⟩⟩
    have sy := (Same.refl H9).new (o := .tup [.ref e8, .ref w9]) hy
    have syz := sy.new (o := .tup [.ref y]) hz
    have nyz : y ≠ z := ne_of_none upd_same hz
    have tp := SqT.of (K := K) (syz _ _ (le9 _ _ h1))
    have ssl : ss.length = rest.length := by rw [hss.length, List.length_reverse]
    refine ⟨t0, z, _, _, rfl, rfl, tp, SqT.of upd_same, by simp only [List.length_append, List.length_map, List.length_singleton]; exact szL (by omega), fun zz => absurd zz (by simp), fun _ zz => absurd zz (by simp), fun _ _ t' ht' => ?_⟩
    have snew := (Same.refl (upd (upd H9 y (.tup [.ref e8, .ref w9])) z (.tup [.ref y]))).new (o := .tup (ss.map V.ref ++ [V.ref s0] ++ [V.ref y])) ht'
    have s8z := s9.trans syz
    have s8t := s8z.trans snew
    refine ⟨_, rfl, b, T.Book.C, dx, _, rfl, s8t _ _ hb8, T.Book.cl, T.noStates, by show 1 < 1000; decide, ?_⟩
    have hyz : upd (upd H9 y (.tup [.ref e8, .ref w9])) z (.tup [.ref y]) y = some (.tup [.ref e8, .ref w9]) := by rw [upd_ne nyz, upd_same]
    have gy0 := (gr9.later s9).le.free hy
    have g2 := (gr9.later s8z).addF (Fresh.ext x08 (.of (s9.free hy))) gy0 hyz
    have gt0 := g2.le.free ht'
    have g3 := (g2.later snew).addF (Fresh.ext x08 (.of (s8z.free ht'))) gt0 upd_same
    refine book_end q hb gb (FrB.ext (x08.trans (ExtN.of s8t))) (s8t _ _ hb8) (T8.ext s8t) g3 ?_
    refine IsStates.push (ss := ss ++ [s0]) (s := y) (by rw [upd_same]; simp) ?_ ⟨e8, w9, ?_, .inr ⟨o8, zs.map (·.1), ?_, hod, ?_⟩, hw9.mono g3.same⟩
    · rw [List.reverse_cons]
      exact (hss.mono fun _ _ h => h.mono g3.same).snoc (hs0.mono g3.same)
    · exact ((Same.refl _).new gt0) _ _ upd_same
    · exact (((Same.refl _).new gy0).new gt0) _ _ upd_same
    · exact rowsZ.mono fun _ _ h => h.mono (((Same.refl _).new gy0).new gt0)
  · exact q1 k hb9 d H9 (x08.trans (ExtN.of s9)) (T8.ext s9) hd9 (Fresh.ext x08 (.of hd0))
end
end Spf
end
section
set_option maxHeartbeats 4000000
/-! Marks, attempts and trials. -/
namespace Spf
open PySem PySem.Spec PyProof.Rows L2 L2H HotX LamX
section
variable {P : Program} {w : World} {K : PySem.W.Frag} {mg : Str → Option Value} {base : Heap} {h : Bool}
abbrev vMarkInit : List Str := ["self", "states", "before"]
abbrev pMarkInit : List Str := ["self", "states", "before"]
theorem scMarkInit : FnScope vMarkInit pMarkInit (defScope (inClass (top 47) 0)) := ⟨rfl, rfl, rfl, by decide +kernel, rfl, by decide +kernel, by decide +kernel⟩
def markF (x y : V) : List (Str × V) := [("states", x), ("before", y)]
def attF (x y : V) : List (Str × V) := [("holder", x), ("mark", y)]
theorem putF_m1 (x : V) : putF "states" x [] = [(("states" : Str), x)] := by simp [putF]
theorem putF_m2 (x y : V) : putF "before" y [(("states" : Str), x)] = markF x y := by
  have : ¬ (("states" : Str) = "before") := by decide
  simp [putF, markF, this]
theorem putF_a1 (x : V) : putF "holder" x [] = [(("holder" : Str), x)] := by simp [putF]
theorem putF_a2 (x y : V) : putF "mark" y [(("holder" : Str), x)] = attF x y := by
  have : ¬ (("holder" : Str) = "mark") := by decide
  simp [putF, attF, this]
theorem putF_a3 (x y z : V) : putF "mark" z (attF x y) = attF x z := by
  have : ¬ (("holder" : Str) = "mark") := by decide
  simp [putF, attF, this]
theorem markF_s (x y : V) : (markF x y).lookup ("states" : Str) = some x := by simp [markF, List.lookup]
theorem markF_b (x y : V) : (markF x y).lookup ("before" : Str) = some y := by
  have : (("before" : Str) == "states") = false := by decide
  simp [markF, List.lookup, this]
theorem attF_h (x y : V) : (attF x y).lookup ("holder" : Str) = some x := by simp [attF, List.lookup]
theorem attF_m (x y : V) : (attF x y).lookup ("mark" : Str) = some y := by
  have : (("mark" : Str) == "holder") = false := by decide
  simp [attF, List.lookup, this]
def spMarkInit (CM : Addr) : Sp := fun vs H Q _ => ∃ (m dx : Addr) (x y : V), vs = [.ref m, x, y] ∧ H m = some (.ins CM dx []) ∧ ∀ H' : Hp, Ex m H H' → H' m = some (.ins CM dx (markF x y)) → Q .non H'
theorem okMarkInit (T : TxtA K mg) : FnX P w K mg base CX0 false h 1 T.mInit.f T.mInit.fd pMarkInit (spMarkInit T.Mark.C) := by
  refine funX0 (k := 0) T.mInit.F scMarkInit (fun vs H Q E ⟨m, dx, x, y, e, _⟩ => e ▸ rfl) fun cdv A outer s H vs Q E p c ⟨m, dx, x, y, e, hm, q⟩ => ?_
  subst e
  refine ⟨_, pss_cons (ps_fld (pv 0) (pv 1) rfl)
      (pss_one (ps_fld (pv 0) (pv 2) rfl)), ?_⟩
  refine ⟨_, rfl, _, rfl, m, T.Mark.C, dx, [], rfl, hm, T.Mark.cl, T.noMStates, by show 0 < 1000; decide, ?_⟩
  refine ⟨_, rfl, _, rfl, m, T.Mark.C, dx, _, rfl, upd_same, T.Mark.cl, T.noBefore, by rw [putF_m1]; show 1 < 1000; decide, ?_⟩
  rw [putF_m1, putF_m2]
  exact q _ (fun a o hn ha => by rw [upd_ne hn, upd_ne hn]; exact ha) upd_same
abbrev vAttemptInit : List Str := ["self", "holder"]
abbrev pAttemptInit : List Str := ["self", "holder"]
theorem scAttemptInit : FnScope vAttemptInit pAttemptInit (defScope (inClass (top 48) 0)) := ⟨rfl, rfl, rfl, by decide +kernel, rfl, by decide +kernel, by decide +kernel⟩
def spAttInit (CA : Addr) : Sp := fun vs H Q _ => ∃ (m dx : Addr) (x : V), vs = [.ref m, x] ∧ H m = some (.ins CA dx []) ∧ ∀ H' : Hp, Ex m H H' → H' m = some (.ins CA dx (attF x .non)) → Q .non H'
theorem okAttemptInit (T : TxtA K mg) : FnX P w K mg base CX0 false h 1 T.aInit.f T.aInit.fd pAttemptInit (spAttInit T.Attempt.C) := by
  refine funX0 (k := 0) T.aInit.F scAttemptInit (fun vs H Q E ⟨m, dx, x, e, _⟩ => e ▸ rfl) fun cdv A outer s H vs Q E p c ⟨m, dx, x, e, hm, q⟩ => ?_
  subst e
  refine ⟨_, pss_cons (ps_fld (pv 0) (pv 1) rfl)
      (pss_one (ps_fld (pv 0) pe_non rfl)), ?_⟩
  refine ⟨_, rfl, _, rfl, m, T.Attempt.C, dx, [], rfl, hm, T.Attempt.cl, T.noHolder, by show 0 < 1000; decide, ?_⟩
  refine ⟨_, rfl, m, T.Attempt.C, dx, _, rfl, upd_same, T.Attempt.cl, T.noMark, by rw [putF_a1]; show 1 < 1000; decide, ?_⟩
  rw [putF_a1, putF_a2]
  exact q _ (fun a o hn ha => by rw [upd_ne hn, upd_ne hn]; exact ha) upd_same
abbrev vAttemptEnter : List Str := ["self"]
abbrev pAttemptEnter : List Str := ["self"]
theorem scAttemptEnter : FnScope vAttemptEnter pAttemptEnter (defScope (inClass (top 48) 1)) := ⟨rfl, rfl, rfl, by decide +kernel, rfl, by decide +kernel, by decide +kernel⟩
def spAttEnter (CA CB CM : Addr) : Sp := fun vs H Q _ => ∃ (a dx b db t : Addr) (y : V), vs = [.ref a] ∧ H a = some (.ins CA dx (attF (.ref b) y)) ∧ H b = some (.ins CB db [("states", .ref t)]) ∧
  ∀ (m dm : Addr) (H' : Hp), Ex a H H' → H m = none → H' m = some (.ins CM dm (markF (.ref t) y)) → H' a = some (.ins CA dx (attF (.ref b) (.ref m))) → Q (.ref b) H'
theorem okAttemptEnter (T : TxtA K mg) : FnX P w K mg base CX0 false h 3 T.aEnter.f T.aEnter.fd pAttemptEnter (spAttEnter T.Attempt.C T.Book.C T.Mark.C) := by
  refine funX0 (k := 2) T.aEnter.F scAttemptEnter (fun vs H Q E ⟨a, dx, b, db, t, y, e, _⟩ => e ▸ rfl) fun cdv A outer s H vs Q E p c ⟨a, dx, b, db, t, y, e, ha, hb, q⟩ => ?_
  subst e
  refine ⟨_, pss_cons (ps_fld (pv 0) (pe_makeX T.mInit.mk1 (okMarkInit T) (c.mono (by decide)) nogd rfl T.Mark.mg T.mInit.b (pa_cons (pe_fld (pe_fld (pv 0) rfl) rfl) (pa_cons (pe_fld (pv 0) rfl) pa_nil))) rfl)
      (pss_one (ps_ret (pe_fld (pv 0) rfl))), ?_⟩
  refine ⟨.ref a, rfl, a, T.Attempt.C, dx, _, _, rfl, ha, T.Attempt.cl, T.noHolder, attF_h _ _, ?_⟩
  refine ⟨b, T.Book.C, db, _, _, rfl, hb, T.Book.cl, T.noStates, states_f _, ?_⟩
  refine ⟨.ref a, rfl, a, T.Attempt.C, dx, _, _, rfl, ha, T.Attempt.cl, T.noMark, attF_m _ _, ?_⟩
  refine fun m dm hm hdm hne => ⟨m, dm, .ref t, y, rfl, upd_same, fun H' ex hm' => ⟨rfl, ?_⟩⟩
  have s1 : Same H H' := fun c o hc => ex _ _ (ne_of_none hc hm) (by rw [upd_ne (ne_of_none hc hm), upd_ne (ne_of_none hc hdm)]; exact hc)
  refine ⟨_, rfl, a, T.Attempt.C, dx, _, rfl, s1 _ _ ha, T.Attempt.cl, T.noMark, by show 2 < 1000; decide, ?_⟩
  rw [putF_a3]
  have nma : m ≠ a := fun z => by rw [z] at hm; rw [hm] at ha; cases ha
  refine ⟨.ref a, rfl, a, T.Attempt.C, dx, _, _, rfl, upd_same, T.Attempt.cl, T.noHolder, attF_h _ _, ?_⟩
  exact q m dm _ (fun c o hn hc => by rw [upd_ne hn]; exact s1 _ _ hc) hm (by rw [upd_ne nma]; exact hm') upd_same
abbrev vAttemptExit : List Str := ["self", "kind", "value", "trace"]
abbrev pAttemptExit : List Str := ["self", "kind", "value", "trace"]
theorem scAttemptExit : FnScope vAttemptExit pAttemptExit (defScope (inClass (top 48) 2)) := ⟨rfl, rfl, rfl, by decide +kernel, rfl, by decide +kernel, by decide +kernel⟩
def spAttExit (CA CB CM : Addr) : Sp := fun vs H Q _ => ∃ (a dx b db t m dm t0 : Addr) (k e tr y : V), vs = [.ref a, k, e, tr] ∧ H a = some (.ins CA dx (attF (.ref b) (.ref m))) ∧ H b = some (.ins CB db [("states", .ref t)]) ∧ H m = some (.ins CM dm (markF (.ref t0) y)) ∧ a ≠ b ∧ m ≠ b ∧ m ≠ a ∧
  ∀ (H' : Hp), (∀ c o, c ≠ a → c ≠ b → H c = some o → H' c = some o) → H' a = some (.ins CA dx (attF (.ref b) y)) → (k = .non → H' b = some (.ins CB db [("states", .ref t)])) → (k ≠ .non → H' b = some (.ins CB db [("states", .ref t0)])) → Q .non H'
theorem okAttemptExit (T : TxtA K mg) : FnX P w K mg base CX0 false h 3 T.aExit.f T.aExit.fd pAttemptExit (spAttExit T.Attempt.C T.Book.C T.Mark.C) := by
  refine funX0 (k := 2) T.aExit.F scAttemptExit (fun vs H Q E ⟨a, dx, b, db, t, m, dm, t0, k, e, tr, y, e0, _⟩ => e0 ▸ rfl) fun cdv A outer s H vs Q E p c ⟨a, dx, b, db, t, m, dm, t0, k, e, tr, y, e0, ha, hb, hm, n1, n2, n3, q⟩ => ?_
  subst e0
  refine ⟨_, pss_cons (ps_if (pt_cmpR op_notN (pv 1) pe_non (nomark _)) (pss_one (ps_fld (pe_fld (pv 0) rfl) (pe_fld (pe_fld (pv 0) rfl) rfl) rfl)) pss_nil)
      (pss_one (ps_fld (pv 0) (pe_fld (pe_fld (pv 0) rfl) rfl) rfl)), ?_⟩
  have fin : ∀ H1 : Hp, (∀ c o, c ≠ a → c ≠ b → H c = some o → H1 c = some o) → H1 a = some (.ins T.Attempt.C dx (attF (.ref b) (.ref m))) → (k = .non → H1 b = some (.ins T.Book.C db [("states", .ref t)])) → (k ≠ .non → H1 b = some (.ins T.Book.C db [("states", .ref t0)])) →
      sFld K (tVar 0) (tFld K (tFld K (tVar 0) "mark") "before") "mark" { nx := fun _ H' => Q .non H', rt := Q } (L2.start vAttemptExit [.ref a, k, e, tr]) H1 := fun H1 f1 f2 f3 f4 => by
    have hm1 := f1 m _ n3 n2 hm
    refine ⟨.ref a, rfl, a, T.Attempt.C, dx, _, _, rfl, f2, T.Attempt.cl, T.noMark, attF_m _ _, ?_⟩
    refine ⟨m, T.Mark.C, dm, _, _, rfl, hm1, T.Mark.cl, T.noBefore, markF_b _ _, ?_⟩
    refine ⟨_, rfl, a, T.Attempt.C, dx, _, rfl, f2, T.Attempt.cl, T.noMark, by show 2 < 1000; decide, ?_⟩
    rw [putF_a3]
    exact q _ (fun c o na nb hc => by rw [upd_ne na]; exact f1 c o na nb hc) upd_same (fun hk => by rw [upd_ne n1.symm]; exact f3 hk) fun hk => by rw [upd_ne n1.symm]; exact f4 hk
  refine ⟨k, rfl, rfl, _, rfl, ?_⟩
  by_cases hk : k = .non
  · exact ifF (by rw [hk]; rfl) (fin H (fun c o _ _ hc => hc) ha (fun _ => hb) fun z => absurd hk z)
  · refine ifT (by simp [hk]) ?_
    refine ⟨.ref a, rfl, a, T.Attempt.C, dx, _, _, rfl, ha, T.Attempt.cl, T.noMark, attF_m _ _, ?_⟩
    refine ⟨m, T.Mark.C, dm, _, _, rfl, hm, T.Mark.cl, T.noMStates, markF_s _ _, ?_⟩
    refine ⟨.ref a, rfl, a, T.Attempt.C, dx, _, _, rfl, ha, T.Attempt.cl, T.noHolder, attF_h _ _, ?_⟩
    refine ⟨b, T.Book.C, db, _, rfl, hb, T.Book.cl, T.noStates, by show 1 < 1000; decide, ?_⟩
    rw [putF_one]
    exact fin _ (fun c o _ nb hc => by rw [upd_ne nb]; exact hc) (by rw [upd_ne n1]; exact ha) (fun z => absurd z hk) fun _ => upd_same
abbrev vBookTrial : List Str := ["self"]
abbrev pBookTrial : List Str := ["self"]
theorem scBookTrial : FnScope vBookTrial pBookTrial (defScope (inClass (top 54) 11)) := ⟨rfl, rfl, rfl, by decide +kernel, rfl, by decide +kernel, by decide +kernel⟩
def spBookTrial (CA : Addr) : Sp := fun vs H Q _ => ∃ (b : Addr), vs = [.ref b] ∧ ∀ (a dx : Addr) (H' : Hp), Same H H' → H a = none → H' a = some (.ins CA dx (attF (.ref b) .non)) → Q (.ref a) H'
theorem okBookTrial (T : TxtA K mg) : FnX P w K mg base CX0 false h 3 T.bTrial.f T.bTrial.fd pBookTrial (spBookTrial T.Attempt.C) := by
  refine funX0 (k := 2) T.bTrial.F scBookTrial (fun vs H Q E ⟨b, e, _⟩ => e ▸ rfl) fun cdv A outer s H vs Q E p c ⟨b, e, q⟩ => ?_
  subst e
  refine ⟨_, pss_one (ps_ret (pe_makeX T.aInit.mk1 (okAttemptInit T) (c.mono (by decide)) nogd rfl T.Attempt.mg T.aInit.b (pa_cons (pv 0) pa_nil))), ?_⟩
  refine ⟨.ref b, rfl, fun a dx ha hdx hne => ⟨a, dx, .ref b, rfl, upd_same, fun H' ex ha' => ⟨rfl, ?_⟩⟩⟩
  exact q a dx H' (fun c o hc => ex _ _ (ne_of_none hc ha) (by rw [upd_ne (ne_of_none hc ha), upd_ne (ne_of_none hc hdx)]; exact hc)) ha ha'
end
end Spf
end
section
set_option maxHeartbeats 4000000
/-! The law's deeds done to the book. -/
namespace Spf
open PySem PySem.Spec PyProof.Rows L2 L2H HotX LamX
theorem sm_of {K : PySem.W.Frag} {C : Addr} {m qual : Str} {st : Stmt} {ps : List Str} (M : MethAt K C m qual st ps) : SMeth K C m M.f := ⟨M.mt.at_, M.mt.fn, M.fin⟩
section
variable {P : Program} {w : World} {K : PySem.W.Frag} {mg : Str → Option Value} {base : Heap} {h : Bool}
abbrev vLMade : List Str := ["_law_entry"]
abbrev pLMade : List Str := ["_law_entry"]
theorem scLMade : FnScope vLMade pLMade (defScope (top 69)) := ⟨rfl, rfl, rfl, by decide +kernel, rfl, by decide +kernel, by decide +kernel⟩
def spLMade (C : Addr) : Sp := fun vs H Q _ => ∃ (G : Hp) (a : Addr) (e : Ent), vs = [.ref a] ∧ Same G H ∧ IsEnt G a e ∧ ∀ (v : Addr) (H' G' : Hp), Same H H' → Grow H G H' G' → (NoTbl G → NoTbl G') → IsVal C G' v e → Q (.ref v) H'
theorem okLMade (T : TxtA K mg) : FnX P w K mg base CX0 false false 5 T.l_made.f T.l_made.fd pLMade (spLMade T.Field.C) := by
  refine funX0 (k := 4) T.l_made.F scLMade (fun vs H Q E ⟨G, a, e, eq, _⟩ => eq ▸ rfl) fun cdv A outer s H vs Q E p c ⟨G, a, e, eq, le, ⟨he, eok⟩, q⟩ => ?_
  subst eq
  refine ⟨_, pss_one (ps_ret (pe_tup (pa_cons (pe_makeX T.fInit.mk1 (okFieldInit T) (c.mono (by decide)) nogd rfl T.Field.mg T.fInit.b (pa_cons (pe_ix ix_list (pv 0) pe_int (fun _ _ => rfl)) (pa_cons (pe_ix ix_list (pv 0) pe_int (fun _ _ => rfl)) pa_nil))) (pa_cons (pe_ix ix_list (pv 0) pe_int (fun _ _ => rfl)) pa_nil)))), ?_⟩
  have hl := le _ _ he
  refine ⟨.ref a, rfl, a, _, 0, .int e.b, rfl, rfl, SqL.of hl, atI_nat (j := 0) rfl, ?_⟩
  refine ⟨.ref a, rfl, a, _, 1, .int e.n, rfl, rfl, SqL.of hl, atI_nat (j := 1) rfl, ?_⟩
  refine fun f df hf hdf hne => ⟨f, df, e.b, e.n, rfl, eok.F, upd_same, fun H1 k1 hf1 => ⟨rfl, ?_⟩⟩
  have s1 : Same H H1 := fun c o hc => k1 _ _ (ne_of_none hc hf) (by rw [upd_ne (ne_of_none hc hf), upd_ne (ne_of_none hc hdf)]; exact hc)
  refine ⟨.ref a, rfl, a, _, 2, .str (wd e.ds), rfl, rfl, SqL.of (s1 _ _ hl), atI_nat (j := 2) rfl, szL (by show 2 ≤ 1000000; decide), fun v hv => ?_⟩
  have s2 := s1.new (o := .tup [.ref f, .str (wd e.ds)]) hv
  have nvf : f ≠ v := ne_of_none hf1 hv
  have hf2 : upd H1 v (.tup [.ref f, .str (wd e.ds)]) f = some (.ins T.Field.C df (fldF e.b e.n)) := by rw [upd_ne nvf]; exact hf1
  have g1 := (Grow.of le s2).add hf (le.free hf) hf2
  have vH : H v = none := s1.free hv
  have hGv : upd G f (.ins T.Field.C df (fldF e.b e.n)) v = none := by rw [upd_ne nvf.symm]; exact le.free vH
  have g2 := g1.add vH hGv upd_same
  refine q v _ _ s2 g2 (fun nt => (nt.put fun ps z => by cases z).put fun ps z => by cases z) ⟨f, upd_same, ⟨df, ?_⟩, eok⟩
  rw [upd_ne nvf, upd_same]
abbrev vLPut : List Str := ["_law_shelf", "_law_tag", "_law_thing"]
abbrev pLPut : List Str := ["_law_shelf", "_law_tag", "_law_thing"]
theorem scLPut : FnScope vLPut pLPut (defScope (top 73)) := ⟨rfl, rfl, rfl, by decide +kernel, rfl, by decide +kernel, by decide +kernel⟩
theorem okLPut (T : TxtA K mg) (F : TabFacts K mg base T) : FnX P w K mg base (L2N.CX P w) false false 13 T.l_put.f T.l_put.fd pLPut (spPut F.TL T.Book.C T.Field.C T.Br) := by
  refine funX (k := 12) T.l_put.F scLPut (fun vs H Q E ⟨G, b, v, c, r, t, e, eq, _⟩ => eq ▸ rfl) fun cdv A outer s H vs Q E p c sp => ?_
  obtain ⟨G, b, v, cc, rest, t, e, eq, le, nt, gb, ib, r⟩ := id sp
  subst eq
  obtain ⟨dx, t0, hb, ist⟩ := id ib
  refine ⟨_, pss_cons (ps_asg (pv 2) (pg_sub (pv 0) (pv 1) (set_own (sm_of T.bSet) T.bSeq (okBookSetitem T F) (c.mono (by decide)) nogd T.bSet.b (fun σ => L2N.passAt tkN σ))))
      (pss_one (ps_ret pe_non)), ?_⟩
  refine ⟨.ref v, rfl, .ref b, rfl, .str t, rfl, b, dx, _, rfl, hb, ?_⟩
  exact ⟨G, b, v, cc, rest, t, e, rfl, le, nt, gb, ib, r⟩
end
end Spf
end
section
set_option maxHeartbeats 4000000
/-! A trial of the book: the given def runs between the marks. -/
namespace Spf
open PySem PySem.Spec PyProof.Rows L2 L2H HotX LamX
/-- the attempt at a and the mark at m, while the action runs -/
def InTrial (CA CB CM : Addr) (b db t a da m dm : Addr) (H : Hp) : Prop := H a = some (.ins CA da (attF (.ref b) (.ref m))) ∧ H m = some (.ins CM dm (markF (.ref t) .non)) ∧ ∃ t', H b = some (.ins CB db [("states", .ref t')])
/-- what tried makes of the action's promise -/
def tfTried (CA CB CM : Addr) (sp : Sp) (x : V) (H : Hp) (Q : VK) (E : XK) : Prop := ∃ b db t, x = .ref b ∧ H b = some (.ins CB db [("states", .ref t)]) ∧ ∀ (a da m dm : Addr) (H2 : Hp), Same H H2 → H a = none → H m = none → InTrial CA CB CM b db t a da m dm H2 →
  ∀ (Q' : VK) (E' : XK), (∀ v H3, InTrial CA CB CM b db t a da m dm H3 → (∀ H4, Ex a H3 H4 → Q v H4) → Q' v H3) →
    (∀ n d H3, InTrial CA CB CM b db t a da m dm H3 → (∀ H4, (∀ c o, c ≠ a → c ≠ b → H3 c = some o → H4 c = some o) → H4 b = some (.ins CB db [("states", .ref t)]) → E (.type n) d H4) → E' (.type n) d H3) → sp [.ref b] H2 Q' E'
theorem Cxt.tr {X : Cx} {g : Bool} {k : Nat} {p : Addr × Obj} (c : Cxt X g false k p) (pn : List (Addr × Obj)) (xe : Value → Shared → Prop) : Cxt (X.tr pn xe) g false k p := ⟨c.rm, c.cm, fun z => nomatch z⟩
section
variable {P : Program} {w : World} {K : PySem.W.Frag} {mg : Str → Option Value} {base : Heap}
abbrev vBookTried : List Str := ["self", "action", "held"]
abbrev pBookTried : List Str := ["self", "action"]
theorem scBookTried : FnScope vBookTried pBookTried (defScope (inClass (top 54) 12)) := ⟨rfl, rfl, rfl, by decide +kernel, rfl, by decide +kernel, by decide +kernel⟩
theorem okBookTried (T : TxtA K mg) {gg : Bool} {X : Cx} {k : Nat} {p0 : Addr × Obj} {fr : List Str} (hK : X.K = K) (hmg : X.mg = mg) (hk : 4 ≤ k) :
    GivesF X gg k p0 "tried" "Book.tried" (inClass (top 54) 12) T.bTried.f pBookTried vBookTried fr fun _ _ sp => tfTried T.Attempt.C T.Book.C T.Mark.C sp := by
  subst hK hmg
  intro cdg f F ws s H Q E o sp Fn hf hc C ⟨b, db, t, e, hb, hsp⟩ c
  subst e
  refine ⟨_, pss_one (ps_withX (i := 2) (y := "held") (Wout := fun cls d _ H => E cls d H) (c.mono (show 3 ≤ k by omega)) nogd rfl rfl rfl tkN T.Attempt.cl T.aEnter.mt.at_ T.aEnter.mt.fn T.aExit.mt.at_ T.aExit.mt.fn (okAttemptEnter T) T.aEnter.b (fun h => okAttemptExit T) T.aExit.b scBookTried.nd rfl (Or.inl rfl) (Or.inr rfl)
    (pe_meth0X (E := fun _ => E0) (pv 0) T.Book.cl T.bTrial.mt (okBookTrial T) (c.mono (show 3 ≤ k by omega)) nogd T.bTrial.b at00)
    (fun W pn xe tk => pss_one (ps_ret (pe_actF (E := fun cls d H' => ∀ σ', W cls d σ' H') (i := 1) Fn (c.tr pn xe) (fun z => z) C rfl tk (fun cls d σ' H' h => h σ') rfl (Or.inl rfl) (pa_cons (pv 2) pa_nil))))), ?_⟩
  refine ⟨.ref b, rfl, b, db, _, rfl, hb, by
    have : (("trial" : Str) == "states") = false := by decide
    simp [List.lookup, this], ?_⟩
  refine ⟨b, rfl, fun a da H1 s1 ha0 ha1 => ⟨a, da, _, rfl, ha1, a, da, b, db, t, .non, rfl, ha1, s1 _ _ hb, fun m dm H2 ex hm0 hm1 ha2 => ?_⟩⟩
  have s2 : Same H H2 := fun c o hc => ex _ _ (ne_of_none hc ha0) (s1 _ _ hc)
  have hm : H m = none := s1.free hm0
  have nab : a ≠ b := (ne_of_none hb ha0).symm
  have nmb : m ≠ b := (ne_of_none hb hm).symm
  have nma : m ≠ a := (ne_of_none ha1 hm0).symm
  refine ⟨rfl, s2 _ _ hf, .ref b, rfl, s2 _ _ hf, s2 _ _ hc, hsp a da m dm H2 s2 ha0 hm ⟨ha2, hm1, t, s2 _ _ hb⟩ _ _ (fun v H3 ⟨h1, h2, t', h3⟩ q => ?_) fun n d H3 ⟨h1, h2, t', h3⟩ q σ' => ?_⟩
  · refine ⟨a, da, b, db, t', m, dm, t, .non, .non, .non, .non, rfl, h1, h3, h2, nab, nmb, nma, fun H4 k4 ha4 hb4 _ => q H4 fun c o hn hc => ?_⟩
    by_cases hcb : c = b
    · subst hcb
      rw [h3] at hc
      rw [hb4 rfl]
      exact hc
    · exact k4 c o hn hcb hc
  · exact ⟨.ty n, rfl, fun z => (by cases z), fun e tr => ⟨a, da, b, db, t', m, dm, t, .ty n, e, tr, .non, rfl, h1, h3, h2, nab, nmb, nma, fun H4 k4 ha4 _ hb4 => ⟨rfl, q H4 k4 (hb4 fun z => by cases z)⟩⟩⟩
end
end Spf
end
section
set_option maxHeartbeats 4000000
/-! A deed done to the book. -/
namespace Spf
open PySem PySem.Spec PyProof.Rows L2 L2H HotX LamX
/-- how the two methods bind their parameter by its name -/
structure KwFacts {K : PySem.W.Frag} {mg : Str → Option Value} (T : TxtA K mg) : Prop where
  wish : KBind1 K T.bWish.fd pBookWish "wish"
  lift : KBind1 K T.bLift.fd pBookLift "index"
section
variable {P : Program} {w : World} {K : PySem.W.Frag} {mg : Str → Option Value} {base : Heap}
theorem nolk {m : Str} {v : V} (h : (m == ("states" : Str)) = false) : List.lookup m [(("states" : Str), v)] = none := by simp [List.lookup, h]
abbrev vLDo : List Str := ["_law_shelf", "_law_deed_here", "_law_by_name"]
abbrev pLDo : List Str := ["_law_shelf", "_law_deed_here", "_law_by_name"]
theorem scLDo : FnScope vLDo pLDo (defScope (top 74)) := ⟨rfl, rfl, rfl, by decide +kernel, rfl, by decide +kernel, by decide +kernel⟩
def spLDo (T : TxtA K mg) (F : TabFacts K mg base T) : Sp := fun vs H Q E => ∃ (G : Hp) (b dx dd t0 : Addr) (d : Deed) (k : Bool), vs = [.ref b, .ref dd, .bl k] ∧ Same G H ∧ IsDeed G dd d ∧ H b = some (.ins T.Book.C dx [("states", .ref t0)]) ∧ (match d with
  | .undo => spUndo F.TL T.Book.C T.Field.C T.NU [.ref b] H Q E
  | .put t e => ∀ (v : Addr) (H' G' : Hp), Same H H' → Grow H G H' G' → (NoTbl G → NoTbl G') → IsVal T.Field.C G' v e → spPut F.TL T.Book.C T.Field.C T.Br [.ref b, .str t, .ref v] H' Q E
  | .wish w => ∀ p, IsWish G p w → spWish F.TL T.Book.C T.Field.C T.UN T.Br [.ref b, .ref p] H Q E
  | .lift i => spLift F.TL T.Book.C T.Field.C T.II [.ref b, .int i] H Q E)
theorem okLDo (T : TxtA K mg) (F : TabFacts K mg base T) (Kw : KwFacts T) : FnX P w K mg base (L2N.CX P w) false false 14 T.l_do.f T.l_do.fd pLDo (spLDo T F) := by
  refine funX (k := 13) T.l_do.F scLDo (fun vs H Q E ⟨G, b, dx, dd, t0, d, k, eq, _⟩ => eq ▸ rfl) fun cdv A outer s H vs Q E p c ⟨G, b, dx, dd, t0, d, k, eq, le, id, hb, q⟩ => ?_
  subst eq
  refine ⟨_, pss_cons (ps_if (pt_cmpR op_eq (pe_ix ix_list (pv 1) pe_int (fun _ _ => rfl)) pe_str (nomark _)) (pss_one (ps_ret (pe_meth0X (E := fun _ => E) (pv 0) T.Book.cl T.bUndo.mt (okBookUndo T F.TL) (c.mono (by decide)) nogd T.bUndo.b (fun σ => L2N.passAt tkN σ)))) pss_nil)
      (pss_cons (ps_if (pt_cmpR op_eq (pe_ix ix_list (pv 1) pe_int (fun _ _ => rfl)) pe_str (nomark _)) (pss_one (ps_ret (pe_callX (okLPut T F) (c.mono (by decide)) nogd rfl T.l_put.mg T.l_put.kp T.l_put.b (fun σ => L2N.passAt tkN σ) (pa_cons (pv 0) (pa_cons (pe_ix ix_list (pv 1) pe_int (fun _ _ => rfl)) (pa_cons (pe_callX (okLMade T) (c.mono (by decide)) nogd rfl T.l_made.mg T.l_made.kp T.l_made.b at00 (pa_cons (pe_ix ix_list (pv 1) pe_int (fun _ _ => rfl)) pa_nil)) pa_nil)))))) pss_nil)
      (pss_cons (ps_if (pt_cmpR op_eq (pe_ix ix_list (pv 1) pe_int (fun _ _ => rfl)) pe_str (nomark _)) (pss_one (ps_ret (pe_ifExp (pt_val (pv 2)) (pe_methKX (E := fun _ => E) (pv 0) T.Book.cl T.bWish.mt (okBookWish T F.TL) (c.mono (by decide)) nogd Kw.wish (fun σ => L2N.passAt tkN σ) (pe_ix ix_list (pv 1) pe_int (fun _ _ => rfl))) (pe_methX (E := fun _ => E) (pv 0) T.Book.cl T.bWish.mt (okBookWish T F.TL) (c.mono (by decide)) nogd T.bWish.b (fun σ => L2N.passAt tkN σ) (pa_cons (pe_ix ix_list (pv 1) pe_int (fun _ _ => rfl)) pa_nil))))) pss_nil)
      (pss_one (ps_ret (pe_ifExp (pt_val (pv 2)) (pe_methKX (E := fun _ => E) (pv 0) T.Book.cl T.bLift.mt (okBookLift T F.TL) (c.mono (by decide)) nogd Kw.lift (fun σ => L2N.passAt tkN σ) (pe_ix ix_list (pv 1) pe_int (fun _ _ => rfl))) (pe_methX (E := fun _ => E) (pv 0) T.Book.cl T.bLift.mt (okBookLift T F.TL) (c.mono (by decide)) nogd T.bLift.b (fun σ => L2N.passAt tkN σ) (pa_cons (pe_ix ix_list (pv 1) pe_int (fun _ _ => rfl)) pa_nil))))))), ?_⟩
  cases d with
  | undo =>
    have sd := SqL.of (K := K) (le _ _ id)
    refine ⟨.ref dd, rfl, dd, _, _, _, rfl, rfl, sd, rfl, rfl, _, rfl, ifT (by decide +kernel) ?_⟩
    exact ⟨.ref b, rfl, b, dx, _, rfl, hb, nolk (by decide), q⟩
  | put t e =>
    obtain ⟨p0, hp, ie⟩ := id
    have sd := SqL.of (K := K) (le _ _ hp)
    refine ⟨.ref dd, rfl, dd, _, _, _, rfl, rfl, sd, rfl, rfl, _, rfl, ifF (by decide +kernel) ?_⟩
    refine ⟨.ref dd, rfl, dd, _, _, _, rfl, rfl, sd, rfl, rfl, _, rfl, ifT (by decide +kernel) ?_⟩
    exact ⟨.ref b, rfl, .ref dd, rfl, dd, _, _, _, rfl, rfl, sd, rfl, .ref dd, rfl, dd, _, _, _, rfl, rfl, sd, rfl, G, p0, e, rfl, le, ie, fun v H' G' s g nt iv => q v H' G' s g nt iv⟩
  | wish w =>
    obtain ⟨p0, hp, iw⟩ := id
    have sd := SqL.of (K := K) (le _ _ hp)
    refine ⟨.ref dd, rfl, dd, _, _, _, rfl, rfl, sd, rfl, rfl, _, rfl, ifF (by decide +kernel) ?_⟩
    refine ⟨.ref dd, rfl, dd, _, _, _, rfl, rfl, sd, rfl, rfl, _, rfl, ifF (by decide +kernel) ?_⟩
    refine ⟨.ref dd, rfl, dd, _, _, _, rfl, rfl, sd, rfl, rfl, _, rfl, ifT (by decide +kernel) ?_⟩
    cases k with
    | true => exact ⟨_, rfl, _, rfl, ifT rfl ⟨.ref b, rfl, b, dx, _, rfl, hb, nolk (by decide), .ref dd, rfl, dd, _, _, _, rfl, rfl, sd, rfl, .ref p0, rfl, q p0 iw⟩⟩
    | false => exact ⟨_, rfl, _, rfl, ifF rfl ⟨.ref b, rfl, b, dx, _, rfl, hb, nolk (by decide), .ref dd, rfl, dd, _, _, _, rfl, rfl, sd, rfl, q p0 iw⟩⟩
  | lift i =>
    have sd := SqL.of (K := K) (le _ _ id)
    refine ⟨.ref dd, rfl, dd, _, _, _, rfl, rfl, sd, rfl, rfl, _, rfl, ifF (by decide +kernel) ?_⟩
    refine ⟨.ref dd, rfl, dd, _, _, _, rfl, rfl, sd, rfl, rfl, _, rfl, ifF (by decide +kernel) ?_⟩
    refine ⟨.ref dd, rfl, dd, _, _, _, rfl, rfl, sd, rfl, rfl, _, rfl, ifF (by decide +kernel) ?_⟩
    cases k with
    | true => exact ⟨_, rfl, _, rfl, ifT rfl ⟨.ref b, rfl, b, dx, _, rfl, hb, nolk (by decide), .ref dd, rfl, dd, _, _, _, rfl, rfl, sd, rfl, .int i, rfl, q⟩⟩
    | false => exact ⟨_, rfl, _, rfl, ifF rfl ⟨.ref b, rfl, b, dx, _, rfl, hb, nolk (by decide), .ref dd, rfl, dd, _, _, _, rfl, rfl, sd, rfl, q⟩⟩
end
end Spf
end
section
set_option maxHeartbeats 4000000
/-! The handled exception told as a row. -/
namespace Spf
open PySem PySem.Spec PyProof.Rows L2 L2H HotX LamX
/-- e.n of the pinned exception, where it is known to be no attribute of the class -/
theorem pe_xpB {X : Cx} {C : Addr} {d : Option Addr} {p : Addr × Obj} {e : Expr} {te : TE} {pos : Pos} {n : Str} {b : Bool} (hp : p ∈ X.pn) (T : XfC X.K C) (hno : b = true → PySem.W.findIn X.K (.ref C) n = some none)
    (hz : Zc (.ref C) d p.2) (hf : ∃ vs, p.2.data = .fields vs) (he : PE X e te) (hb : attributeBase e n X.env (eval e X.env) = eval e X.env := by rfl) :
    PE X (.Attribute e n pos) (fun σ H Q => b = true ∧ tXp p.1 d n te σ H Q) := by
  refine ⟨fun pins s σ H Q I h => ?_⟩
  exact (pe_xp hp T (hno h.1) hz hf he hb).run pins s σ H Q I h.2
theorem XdOk.same {H H1 : Hp} {d : Option Addr} (h : XdOk H d) (s : Same H H1) : XdOk H1 d := fun dd e => by
  obtain ⟨fs, hd⟩ := h dd e
  exact ⟨fs, s _ _ hd⟩
section
variable {P : Program} {w : World} {K : PySem.W.Frag} {mg : Str → Option Value} {base : Heap}
abbrev vLWord : List Str := ["_law_e", "_law_sorts", "_law_bases_here", "_law_plain", "_law_at", "_law_words"]
abbrev pLWord : List Str := ["_law_e"]
theorem scLWord : FnScope vLWord pLWord (defScope (top 76)) := ⟨rfl, rfl, rfl, by decide +kernel, rfl, by decide +kernel, by decide +kernel⟩
def wordCs (T : TxtA K mg) : List Value := [.ref T.IN, .ref T.IW, .ref T.IWi, .ref T.II, .ref T.UN, .ref T.Br, .ref T.NU, .ref T.WV, .ref T.WN, .ref T.NA, .type "ValueError", .type "LookupError", .type "ArithmeticError"]
def spLWord (a : Addr) (d : Option Addr) (fi : Str) (wd : Str) : Sp := fun vs H Q _ => vs = [.ref a] ∧ XdOk H d ∧ ((d = none ∧ fi = "" ∧ ∀ l H', Same H H' → H l = none → H' l = some (.lst [.str wd, .non]) → Q (.ref l) H') ∨
  ∃ dd v, fi ≠ "" ∧ d = some dd ∧ H dd = some (.xd [(fi, v)]) ∧ ∀ l H', Same H H' → H l = none → H' l = some (.lst [.str wd, v]) → Q (.ref l) H')
theorem okLWordII (T : TxtA K mg) {p : Addr × Obj} {d : Option Addr} (hz : Zc (.ref T.II) d p.2) (hf : ∃ vs, p.2.data = .fields vs) :
    FnXp P w K mg base CX0 false 4 T.l_word.f T.l_word.fd pLWord (spLWord p.1 d "given" "InvalidIndex") p := by
  refine funXp (k := 3) T.l_word.F scLWord (fun vs H Q E ⟨eq, _⟩ => eq ▸ rfl) fun cdv A outer s H vs Q E c ⟨eq, hx, q⟩ => ?_
  subst eq
  have hpn := c.pin rfl
  have cau := T.cII
  have ni : false = true → PySem.W.findIn K (.ref T.II) "index" = some none := fun z => Bool.noConfusion z
  have ng : true = true → PySem.W.findIn K (.ref T.II) "given" = some none := fun _ => T.xII.noN
  have kit := cau.kit
  simp only [List.map_cons, List.map_nil, List.cons.injEq, and_true] at kit
  obtain ⟨k0, k1, k2, k3, k4, k5, k6, k7, k8, k9, k10, k11, k12⟩ := kit
  refine ⟨_, pss_cons (ps_set (i := 1) scLWord.nd rfl (Or.inl rfl) (pe_lst (pa_cons (pe_callB (call_isP hpn cau.exc hz hf) (by rfl) T.isinstance (by decide +kernel) (pa_cons (pv 0) (pa_cons (pe_glob (v := .ref T.IN) rfl T.gIN rfl) pa_nil))) (pa_cons (pe_callB (call_isP hpn cau.exc hz hf) (by rfl) T.isinstance (by decide +kernel) (pa_cons (pv 0) (pa_cons (pe_glob (v := .ref T.IW) rfl T.gIW rfl) pa_nil))) (pa_cons (pe_callB (call_isP hpn cau.exc hz hf) (by rfl) T.isinstance (by decide +kernel) (pa_cons (pv 0) (pa_cons (pe_glob (v := .ref T.IWi) rfl T.gIWi rfl) pa_nil))) pa_nil)))))
      (pss_cons (ps_set (i := 1) scLWord.nd rfl (Or.inl rfl) (pe_op op_cat (pv 1) (pe_lst (pa_cons (pe_callB (call_isP hpn cau.exc hz hf) (by rfl) T.isinstance (by decide +kernel) (pa_cons (pv 0) (pa_cons (pe_glob (v := .ref T.II) rfl T.xII.gC rfl) pa_nil))) (pa_cons (pe_callB (call_isP hpn cau.exc hz hf) (by rfl) T.isinstance (by decide +kernel) (pa_cons (pv 0) (pa_cons (pe_glob (v := .ref T.UN) rfl T.xUN.gC rfl) pa_nil))) (pa_cons (pe_callB (call_isP hpn cau.exc hz hf) (by rfl) T.isinstance (by decide +kernel) (pa_cons (pv 0) (pa_cons (pe_glob (v := .ref T.Br) rfl T.xBr.gC rfl) pa_nil))) pa_nil))))))
      (pss_cons (ps_expr (pe_bm PySem.F.plainAttrs_list PySem.F.slot_list_append PySem.F.type_list_append mt_append (pv 1) (pa_cons (pe_callB (call_isP hpn cau.exc hz hf) (by rfl) T.isinstance (by decide +kernel) (pa_cons (pv 0) (pa_cons (pe_glob (v := .ref T.NU) rfl T.xNU.gC rfl) pa_nil))) pa_nil)))
      (pss_cons (ps_set (i := 2) scLWord.nd rfl (Or.inl rfl) (pe_lst (pa_cons (pe_callB (call_isP hpn cau.exc hz hf) (by rfl) T.isinstance (by decide +kernel) (pa_cons (pv 0) (pa_cons (pe_glob (v := .ref T.WV) rfl T.gWV rfl) pa_nil))) (pa_cons (pe_callB (call_isP hpn cau.exc hz hf) (by rfl) T.isinstance (by decide +kernel) (pa_cons (pv 0) (pa_cons (pe_glob (v := .ref T.WN) rfl T.gWN rfl) pa_nil))) (pa_cons (pe_callB (call_isP hpn cau.exc hz hf) (by rfl) T.isinstance (by decide +kernel) (pa_cons (pv 0) (pa_cons (pe_glob (v := .ref T.NA) rfl T.gNA rfl) pa_nil))) pa_nil)))))
      (pss_cons (ps_set (i := 3) scLWord.nd rfl (Or.inl rfl) (pe_lst (pa_cons (pe_callB (call_isP hpn cau.exc hz hf) (by rfl) T.isinstance (by decide +kernel) (pa_cons (pv 0) (pa_cons (pe_tyB "ValueError" (by rfl) T.ValueError (by decide +kernel)) pa_nil))) (pa_cons (pe_callB (call_isP hpn cau.exc hz hf) (by rfl) T.isinstance (by decide +kernel) (pa_cons (pv 0) (pa_cons (pe_tyB "LookupError" (by rfl) T.LookupError (by decide +kernel)) pa_nil))) (pa_cons (pe_callB (call_isP hpn cau.exc hz hf) (by rfl) T.isinstance (by decide +kernel) (pa_cons (pv 0) (pa_cons (pe_tyB "ArithmeticError" (by rfl) T.ArithmeticError (by decide +kernel)) pa_nil))) pa_nil)))))
      (pss_cons (ps_if (PW.pt (pw_or (pt_cmpR op_ne (pe_bm PySem.F.plainAttrs_list PySem.F.slot_list_count PySem.F.type_list_count (mt_countB c) (pv 1) (pa_cons pe_bl pa_nil)) pe_int (nomark _)) (pw_or1 (pt_cmpR (op_neD c.rm.units) (pv 2) (pv 3) (nomark _))))) (pss_one (ps_ret (pe_lst (pa_cons pe_str (pa_cons pe_non pa_nil))))) pss_nil)
      (pss_cons (ps_set (i := 4) scLWord.nd rfl (Or.inl rfl) (pe_bm PySem.F.plainAttrs_list PySem.F.slot_list_index PySem.F.type_list_index mt_index (pv 1) (pa_cons pe_bl pa_nil)))
      (pss_cons (ps_if (pt_cmpR (op_neD c.rm.units) (pv 2) (pe_lst (pa_cons (pe_cmpR op_lt (pv 4) pe_int (nomark _)) (pa_cons (pe_cmpR op_eq (pv 4) pe_int (nomark _)) (pa_cons (pe_cmpR op_gt (pv 4) pe_int (nomark _)) pa_nil)))) (nomark _)) (pss_one (ps_ret (pe_lst (pa_cons pe_str (pa_cons pe_non pa_nil))))) pss_nil)
      (pss_cons (ps_set (i := 5) scLWord.nd rfl (Or.inl rfl) (pe_lst (pa_cons pe_str (pa_cons pe_str (pa_cons pe_str (pa_cons pe_str (pa_cons pe_str (pa_cons pe_str (pa_cons pe_str pa_nil)))))))))
      (pss_cons (ps_if (pt_cmpR op_eq (pv 4) pe_int (nomark _)) (pss_one (ps_ret (pe_lst (pa_cons (pe_ix ix_list (pv 5) (pv 4) (fun _ _ => rfl)) (pa_cons pe_non pa_nil))))) pss_nil)
      (pss_one (ps_ret (pe_lst (pa_cons (pe_ix ix_list (pv 5) (pv 4) (fun _ _ => rfl)) (pa_cons (pe_ifExp (pt_cmpR op_eq (pv 4) pe_int (nomark _)) (pe_xpB hpn cau.xf ni hz hf (pv 0)) (pe_xpB hpn cau.xf ng hz hf (pv 0))) pa_nil)))))))))))))), ?_⟩
  refine ⟨.ref p.1, rfl, _, _, _, rfl, fun u h => h, k0, hx, .ref p.1, rfl, _, _, _, rfl, fun u h => h, k1, hx, .ref p.1, rfl, _, _, _, rfl, fun u h => h, k2, hx, szL (by show 3 ≤ 1000000; decide), fun l1 hl1 => ?_⟩
  have s1 := (Same.refl H).new (o := .lst [.bl false, .bl false, .bl false]) hl1
  have hx1 := hx.same s1
  have g1 : upd H l1 (.lst [.bl false, .bl false, .bl false]) l1 = some (.lst [.bl false, .bl false, .bl false]) := upd_same
  generalize upd H l1 (.lst [.bl false, .bl false, .bl false]) = H1 at s1 hx1 g1 ⊢
  refine ⟨.ref l1, rfl, .ref p.1, rfl, _, _, _, rfl, fun u h => h, k3, hx1, .ref p.1, rfl, _, _, _, rfl, fun u h => h, k4, hx1, .ref p.1, rfl, _, _, _, rfl, fun u h => h, k5, hx1, szL (by show 3 ≤ 1000000; decide), fun l2 hl2 => ?_⟩
  have s2 := s1.new (o := .lst [.bl true, .bl false, .bl false]) hl2
  have s12 := (Same.refl H1).new (o := .lst [.bl true, .bl false, .bl false]) hl2
  refine ⟨l1, l2, _, _, rfl, rfl, s12 _ _ g1, upd_same, szL (by show 6 ≤ 1000000; decide), fun l3 hl3 => ?_⟩
  have s3 := s2.new (o := .lst [.bl false, .bl false, .bl false, .bl true, .bl false, .bl false]) hl3
  have hl3H : H l3 = none := s2.free hl3
  have hx3 := hx.same s3
  have g3 := upd_same (H := upd H1 l2 (.lst [.bl true, .bl false, .bl false])) (a := l3) (o := .lst [.bl false, .bl false, .bl false, .bl true, .bl false, .bl false])
  replace s3 : Same H (upd (upd H1 l2 (.lst [.bl true, .bl false, .bl false])) l3 (.lst [.bl false, .bl false, .bl false, .bl true, .bl false, .bl false])) := s3
  show tSeq _ _ _ _ (upd (upd H1 l2 (.lst [.bl true, .bl false, .bl false])) l3 (.lst [.bl false, .bl false, .bl false, .bl true, .bl false, .bl false]))
  generalize upd (upd H1 l2 (.lst [.bl true, .bl false, .bl false])) l3 (.lst [.bl false, .bl false, .bl false, .bl true, .bl false, .bl false]) = H3 at s3 hx3 g3 ⊢
  refine ⟨.ref l3, rfl, .inl ⟨rfl, _, SqL.of g3⟩, .ref p.1, rfl, _, _, _, rfl, fun u h => h, k6, hx3, l3, _, _, rfl, rfl, g3, by rw [sizeLine_eq]; decide, ?_⟩
  have s4 : Same H (upd H3 l3 (.lst [.bl false, .bl false, .bl false, .bl true, .bl false, .bl false, .bl false])) := fun c o hc => by rw [upd_ne (ne_of_none hc hl3H)]; exact s3 c o hc
  have hx4 := hx.same s4
  have g4 := upd_same (H := H3) (a := l3) (o := .lst [.bl false, .bl false, .bl false, .bl true, .bl false, .bl false, .bl false])
  show tSeq _ _ _ _ (upd H3 l3 (.lst [.bl false, .bl false, .bl false, .bl true, .bl false, .bl false, .bl false]))
  generalize upd H3 l3 (.lst [.bl false, .bl false, .bl false, .bl true, .bl false, .bl false, .bl false]) = H4 at s4 hx4 g4 ⊢
  refine ⟨.ref p.1, rfl, _, _, _, rfl, fun u h => h, k7, hx4, .ref p.1, rfl, _, _, _, rfl, fun u h => h, k8, hx4, .ref p.1, rfl, _, _, _, rfl, fun u h => h, k9, hx4, szL (by show 3 ≤ 1000000; decide), fun l4 hl4 => ?_⟩
  have s5 := s4.new (o := .lst [.bl true, .bl false, .bl false]) hl4
  have t5 := (Same.refl H4).new (o := .lst [.bl true, .bl false, .bl false]) hl4
  have g5 := upd_same (H := H4) (a := l4) (o := .lst [.bl true, .bl false, .bl false])
  have hx5 := hx.same s5
  have g53 := t5 _ _ g4
  show tSeq _ _ _ _ (upd H4 l4 (.lst [.bl true, .bl false, .bl false]))
  generalize upd H4 l4 (.lst [.bl true, .bl false, .bl false]) = H5 at s5 hx5 g5 g53 t5 ⊢
  refine ⟨.ref p.1, rfl, _, _, _, rfl, fun u h => h, k10, hx5, .ref p.1, rfl, _, _, _, rfl, fun u h => h, k11, hx5, .ref p.1, rfl, _, _, _, rfl, fun u h => h, k12, hx5, szL (by show 3 ≤ 1000000; decide), fun l5 hl5 => ?_⟩
  have s6 := s5.new (o := .lst [.bl true, .bl false, .bl false]) hl5
  have t6 := (Same.refl H5).new (o := .lst [.bl true, .bl false, .bl false]) hl5
  have g6 := upd_same (H := H5) (a := l5) (o := .lst [.bl true, .bl false, .bl false])
  have hx6 := hx.same s6
  have g63 := t6 _ _ g53
  have g64 := t6 _ _ g5
  show tSeq _ _ _ _ (upd H5 l5 (.lst [.bl true, .bl false, .bl false]))
  generalize upd H5 l5 (.lst [.bl true, .bl false, .bl false]) = H6 at s6 hx6 g6 g63 g64 t6 ⊢
  refine ⟨.ref l3, rfl, .inl ⟨rfl, _, SqL.of g63⟩, l3, [false, false, false, true, false, false, false], true, rfl, rfl, SqL.of g63, rfl, _, rfl, ifF (by decide +kernel) ?_⟩
  refine ⟨.ref l4, rfl, .ref l5, rfl, _, _, .lst (SqL.of g64) (dp_bools [true, false, false]), .lst (SqL.of g6) (dp_bools [true, false, false]), by decide +kernel, by decide +kernel, _, rfl, ifF (by decide +kernel) ?_⟩
  refine ⟨.ref l3, rfl, .inl ⟨rfl, _, SqL.of g63⟩, l3, [.bl false, .bl false, .bl false, .bl true, .bl false, .bl false, .bl false], .bl true, 3, .bl true, rfl, rfl, SqL.of g63, rfl, rfl, rfl, rfl, fun m z' hm hz' => ?_, ?_⟩
  · have : m = 0 ∨ m = 1 ∨ m = 2 := by omega
    rcases this with rfl | rfl | rfl <;> (cases hz'; rfl)
  have n43 : True := trivial
  refine ⟨.ref l4, rfl, .int 3, rfl, _, _, rfl, rfl, .int 3, rfl, rfl, .int 3, rfl, _, _, rfl, rfl, szL (by show 3 ≤ 1000000; decide), fun l6 hl6 => ?_⟩
  have s7 := s6.new (o := .lst [.bl true, .bl false, .bl false]) hl6
  have t7 := (Same.refl H6).new (o := .lst [.bl true, .bl false, .bl false]) hl6
  have g7 := upd_same (H := H6) (a := l6) (o := .lst [.bl true, .bl false, .bl false])
  refine ⟨_, _, .lst (SqL.of (t7 _ _ g64)) (dp_bools [true, false, false]), .lst (SqL.of g7) (dp_bools [true, false, false]), by decide +kernel, by decide +kernel, _, rfl, ifF (by decide +kernel) ?_⟩
  refine ⟨szL (by show 7 ≤ 1000000; decide), fun l7 hl7 => ?_⟩
  have s8 := s7.new (o := .lst [.str "InvalidName", .str "InvalidWord", .str "InvalidWish", .str "InvalidIndex", .str "UnknownName", .str "Broken", .str "NothingToUndo"]) hl7
  rcases q with ⟨hd, hfi, q⟩ | ⟨dd, v, hne, hd, hdd, q⟩
  · exact absurd hfi (by decide)
  refine ⟨.int 3, rfl, rfl, _, rfl, ifF (by decide +kernel) ?_⟩
  refine ⟨.ref l7, rfl, .int 3, rfl, l7, _, 3, _, rfl, rfl, SqL.of upd_same, atI_nat (j := 3) rfl, .int 3, rfl, rfl, _, rfl, ifF (by decide +kernel) ⟨rfl, .ref p.1, rfl, rfl, dd, _, v, hd, s8 _ _ hdd, by simp [List.lookup], szL (by show 2 ≤ 1000000; decide), fun l8 hl8 => ?_⟩⟩
  exact q l8 _ (s8.new hl8) (s8.free hl8) upd_same
theorem okLWordUN (T : TxtA K mg) {p : Addr × Obj} {d : Option Addr} (hz : Zc (.ref T.UN) d p.2) (hf : ∃ vs, p.2.data = .fields vs) :
    FnXp P w K mg base CX0 false 4 T.l_word.f T.l_word.fd pLWord (spLWord p.1 d "given" "UnknownName") p := by
  refine funXp (k := 3) T.l_word.F scLWord (fun vs H Q E ⟨eq, _⟩ => eq ▸ rfl) fun cdv A outer s H vs Q E c ⟨eq, hx, q⟩ => ?_
  subst eq
  have hpn := c.pin rfl
  have cau := T.cUN
  have ni : false = true → PySem.W.findIn K (.ref T.UN) "index" = some none := fun z => Bool.noConfusion z
  have ng : true = true → PySem.W.findIn K (.ref T.UN) "given" = some none := fun _ => T.xUN.noN
  have kit := cau.kit
  simp only [List.map_cons, List.map_nil, List.cons.injEq, and_true] at kit
  obtain ⟨k0, k1, k2, k3, k4, k5, k6, k7, k8, k9, k10, k11, k12⟩ := kit
  refine ⟨_, pss_cons (ps_set (i := 1) scLWord.nd rfl (Or.inl rfl) (pe_lst (pa_cons (pe_callB (call_isP hpn cau.exc hz hf) (by rfl) T.isinstance (by decide +kernel) (pa_cons (pv 0) (pa_cons (pe_glob (v := .ref T.IN) rfl T.gIN rfl) pa_nil))) (pa_cons (pe_callB (call_isP hpn cau.exc hz hf) (by rfl) T.isinstance (by decide +kernel) (pa_cons (pv 0) (pa_cons (pe_glob (v := .ref T.IW) rfl T.gIW rfl) pa_nil))) (pa_cons (pe_callB (call_isP hpn cau.exc hz hf) (by rfl) T.isinstance (by decide +kernel) (pa_cons (pv 0) (pa_cons (pe_glob (v := .ref T.IWi) rfl T.gIWi rfl) pa_nil))) pa_nil)))))
      (pss_cons (ps_set (i := 1) scLWord.nd rfl (Or.inl rfl) (pe_op op_cat (pv 1) (pe_lst (pa_cons (pe_callB (call_isP hpn cau.exc hz hf) (by rfl) T.isinstance (by decide +kernel) (pa_cons (pv 0) (pa_cons (pe_glob (v := .ref T.II) rfl T.xII.gC rfl) pa_nil))) (pa_cons (pe_callB (call_isP hpn cau.exc hz hf) (by rfl) T.isinstance (by decide +kernel) (pa_cons (pv 0) (pa_cons (pe_glob (v := .ref T.UN) rfl T.xUN.gC rfl) pa_nil))) (pa_cons (pe_callB (call_isP hpn cau.exc hz hf) (by rfl) T.isinstance (by decide +kernel) (pa_cons (pv 0) (pa_cons (pe_glob (v := .ref T.Br) rfl T.xBr.gC rfl) pa_nil))) pa_nil))))))
      (pss_cons (ps_expr (pe_bm PySem.F.plainAttrs_list PySem.F.slot_list_append PySem.F.type_list_append mt_append (pv 1) (pa_cons (pe_callB (call_isP hpn cau.exc hz hf) (by rfl) T.isinstance (by decide +kernel) (pa_cons (pv 0) (pa_cons (pe_glob (v := .ref T.NU) rfl T.xNU.gC rfl) pa_nil))) pa_nil)))
      (pss_cons (ps_set (i := 2) scLWord.nd rfl (Or.inl rfl) (pe_lst (pa_cons (pe_callB (call_isP hpn cau.exc hz hf) (by rfl) T.isinstance (by decide +kernel) (pa_cons (pv 0) (pa_cons (pe_glob (v := .ref T.WV) rfl T.gWV rfl) pa_nil))) (pa_cons (pe_callB (call_isP hpn cau.exc hz hf) (by rfl) T.isinstance (by decide +kernel) (pa_cons (pv 0) (pa_cons (pe_glob (v := .ref T.WN) rfl T.gWN rfl) pa_nil))) (pa_cons (pe_callB (call_isP hpn cau.exc hz hf) (by rfl) T.isinstance (by decide +kernel) (pa_cons (pv 0) (pa_cons (pe_glob (v := .ref T.NA) rfl T.gNA rfl) pa_nil))) pa_nil)))))
      (pss_cons (ps_set (i := 3) scLWord.nd rfl (Or.inl rfl) (pe_lst (pa_cons (pe_callB (call_isP hpn cau.exc hz hf) (by rfl) T.isinstance (by decide +kernel) (pa_cons (pv 0) (pa_cons (pe_tyB "ValueError" (by rfl) T.ValueError (by decide +kernel)) pa_nil))) (pa_cons (pe_callB (call_isP hpn cau.exc hz hf) (by rfl) T.isinstance (by decide +kernel) (pa_cons (pv 0) (pa_cons (pe_tyB "LookupError" (by rfl) T.LookupError (by decide +kernel)) pa_nil))) (pa_cons (pe_callB (call_isP hpn cau.exc hz hf) (by rfl) T.isinstance (by decide +kernel) (pa_cons (pv 0) (pa_cons (pe_tyB "ArithmeticError" (by rfl) T.ArithmeticError (by decide +kernel)) pa_nil))) pa_nil)))))
      (pss_cons (ps_if (PW.pt (pw_or (pt_cmpR op_ne (pe_bm PySem.F.plainAttrs_list PySem.F.slot_list_count PySem.F.type_list_count (mt_countB c) (pv 1) (pa_cons pe_bl pa_nil)) pe_int (nomark _)) (pw_or1 (pt_cmpR (op_neD c.rm.units) (pv 2) (pv 3) (nomark _))))) (pss_one (ps_ret (pe_lst (pa_cons pe_str (pa_cons pe_non pa_nil))))) pss_nil)
      (pss_cons (ps_set (i := 4) scLWord.nd rfl (Or.inl rfl) (pe_bm PySem.F.plainAttrs_list PySem.F.slot_list_index PySem.F.type_list_index mt_index (pv 1) (pa_cons pe_bl pa_nil)))
      (pss_cons (ps_if (pt_cmpR (op_neD c.rm.units) (pv 2) (pe_lst (pa_cons (pe_cmpR op_lt (pv 4) pe_int (nomark _)) (pa_cons (pe_cmpR op_eq (pv 4) pe_int (nomark _)) (pa_cons (pe_cmpR op_gt (pv 4) pe_int (nomark _)) pa_nil)))) (nomark _)) (pss_one (ps_ret (pe_lst (pa_cons pe_str (pa_cons pe_non pa_nil))))) pss_nil)
      (pss_cons (ps_set (i := 5) scLWord.nd rfl (Or.inl rfl) (pe_lst (pa_cons pe_str (pa_cons pe_str (pa_cons pe_str (pa_cons pe_str (pa_cons pe_str (pa_cons pe_str (pa_cons pe_str pa_nil)))))))))
      (pss_cons (ps_if (pt_cmpR op_eq (pv 4) pe_int (nomark _)) (pss_one (ps_ret (pe_lst (pa_cons (pe_ix ix_list (pv 5) (pv 4) (fun _ _ => rfl)) (pa_cons pe_non pa_nil))))) pss_nil)
      (pss_one (ps_ret (pe_lst (pa_cons (pe_ix ix_list (pv 5) (pv 4) (fun _ _ => rfl)) (pa_cons (pe_ifExp (pt_cmpR op_eq (pv 4) pe_int (nomark _)) (pe_xpB hpn cau.xf ni hz hf (pv 0)) (pe_xpB hpn cau.xf ng hz hf (pv 0))) pa_nil)))))))))))))), ?_⟩
  refine ⟨.ref p.1, rfl, _, _, _, rfl, fun u h => h, k0, hx, .ref p.1, rfl, _, _, _, rfl, fun u h => h, k1, hx, .ref p.1, rfl, _, _, _, rfl, fun u h => h, k2, hx, szL (by show 3 ≤ 1000000; decide), fun l1 hl1 => ?_⟩
  have s1 := (Same.refl H).new (o := .lst [.bl false, .bl false, .bl false]) hl1
  have hx1 := hx.same s1
  have g1 : upd H l1 (.lst [.bl false, .bl false, .bl false]) l1 = some (.lst [.bl false, .bl false, .bl false]) := upd_same
  generalize upd H l1 (.lst [.bl false, .bl false, .bl false]) = H1 at s1 hx1 g1 ⊢
  refine ⟨.ref l1, rfl, .ref p.1, rfl, _, _, _, rfl, fun u h => h, k3, hx1, .ref p.1, rfl, _, _, _, rfl, fun u h => h, k4, hx1, .ref p.1, rfl, _, _, _, rfl, fun u h => h, k5, hx1, szL (by show 3 ≤ 1000000; decide), fun l2 hl2 => ?_⟩
  have s2 := s1.new (o := .lst [.bl false, .bl true, .bl false]) hl2
  have s12 := (Same.refl H1).new (o := .lst [.bl false, .bl true, .bl false]) hl2
  refine ⟨l1, l2, _, _, rfl, rfl, s12 _ _ g1, upd_same, szL (by show 6 ≤ 1000000; decide), fun l3 hl3 => ?_⟩
  have s3 := s2.new (o := .lst [.bl false, .bl false, .bl false, .bl false, .bl true, .bl false]) hl3
  have hl3H : H l3 = none := s2.free hl3
  have hx3 := hx.same s3
  have g3 := upd_same (H := upd H1 l2 (.lst [.bl false, .bl true, .bl false])) (a := l3) (o := .lst [.bl false, .bl false, .bl false, .bl false, .bl true, .bl false])
  replace s3 : Same H (upd (upd H1 l2 (.lst [.bl false, .bl true, .bl false])) l3 (.lst [.bl false, .bl false, .bl false, .bl false, .bl true, .bl false])) := s3
  show tSeq _ _ _ _ (upd (upd H1 l2 (.lst [.bl false, .bl true, .bl false])) l3 (.lst [.bl false, .bl false, .bl false, .bl false, .bl true, .bl false]))
  generalize upd (upd H1 l2 (.lst [.bl false, .bl true, .bl false])) l3 (.lst [.bl false, .bl false, .bl false, .bl false, .bl true, .bl false]) = H3 at s3 hx3 g3 ⊢
  refine ⟨.ref l3, rfl, .inl ⟨rfl, _, SqL.of g3⟩, .ref p.1, rfl, _, _, _, rfl, fun u h => h, k6, hx3, l3, _, _, rfl, rfl, g3, by rw [sizeLine_eq]; decide, ?_⟩
  have s4 : Same H (upd H3 l3 (.lst [.bl false, .bl false, .bl false, .bl false, .bl true, .bl false, .bl false])) := fun c o hc => by rw [upd_ne (ne_of_none hc hl3H)]; exact s3 c o hc
  have hx4 := hx.same s4
  have g4 := upd_same (H := H3) (a := l3) (o := .lst [.bl false, .bl false, .bl false, .bl false, .bl true, .bl false, .bl false])
  show tSeq _ _ _ _ (upd H3 l3 (.lst [.bl false, .bl false, .bl false, .bl false, .bl true, .bl false, .bl false]))
  generalize upd H3 l3 (.lst [.bl false, .bl false, .bl false, .bl false, .bl true, .bl false, .bl false]) = H4 at s4 hx4 g4 ⊢
  refine ⟨.ref p.1, rfl, _, _, _, rfl, fun u h => h, k7, hx4, .ref p.1, rfl, _, _, _, rfl, fun u h => h, k8, hx4, .ref p.1, rfl, _, _, _, rfl, fun u h => h, k9, hx4, szL (by show 3 ≤ 1000000; decide), fun l4 hl4 => ?_⟩
  have s5 := s4.new (o := .lst [.bl false, .bl true, .bl false]) hl4
  have t5 := (Same.refl H4).new (o := .lst [.bl false, .bl true, .bl false]) hl4
  have g5 := upd_same (H := H4) (a := l4) (o := .lst [.bl false, .bl true, .bl false])
  have hx5 := hx.same s5
  have g53 := t5 _ _ g4
  show tSeq _ _ _ _ (upd H4 l4 (.lst [.bl false, .bl true, .bl false]))
  generalize upd H4 l4 (.lst [.bl false, .bl true, .bl false]) = H5 at s5 hx5 g5 g53 t5 ⊢
  refine ⟨.ref p.1, rfl, _, _, _, rfl, fun u h => h, k10, hx5, .ref p.1, rfl, _, _, _, rfl, fun u h => h, k11, hx5, .ref p.1, rfl, _, _, _, rfl, fun u h => h, k12, hx5, szL (by show 3 ≤ 1000000; decide), fun l5 hl5 => ?_⟩
  have s6 := s5.new (o := .lst [.bl false, .bl true, .bl false]) hl5
  have t6 := (Same.refl H5).new (o := .lst [.bl false, .bl true, .bl false]) hl5
  have g6 := upd_same (H := H5) (a := l5) (o := .lst [.bl false, .bl true, .bl false])
  have hx6 := hx.same s6
  have g63 := t6 _ _ g53
  have g64 := t6 _ _ g5
  show tSeq _ _ _ _ (upd H5 l5 (.lst [.bl false, .bl true, .bl false]))
  generalize upd H5 l5 (.lst [.bl false, .bl true, .bl false]) = H6 at s6 hx6 g6 g63 g64 t6 ⊢
  refine ⟨.ref l3, rfl, .inl ⟨rfl, _, SqL.of g63⟩, l3, [false, false, false, false, true, false, false], true, rfl, rfl, SqL.of g63, rfl, _, rfl, ifF (by decide +kernel) ?_⟩
  refine ⟨.ref l4, rfl, .ref l5, rfl, _, _, .lst (SqL.of g64) (dp_bools [false, true, false]), .lst (SqL.of g6) (dp_bools [false, true, false]), by decide +kernel, by decide +kernel, _, rfl, ifF (by decide +kernel) ?_⟩
  refine ⟨.ref l3, rfl, .inl ⟨rfl, _, SqL.of g63⟩, l3, [.bl false, .bl false, .bl false, .bl false, .bl true, .bl false, .bl false], .bl true, 4, .bl true, rfl, rfl, SqL.of g63, rfl, rfl, rfl, rfl, fun m z' hm hz' => ?_, ?_⟩
  · have : m = 0 ∨ m = 1 ∨ m = 2 ∨ m = 3 := by omega
    rcases this with rfl | rfl | rfl | rfl <;> (cases hz'; rfl)
  have n43 : True := trivial
  refine ⟨.ref l4, rfl, .int 4, rfl, _, _, rfl, rfl, .int 4, rfl, rfl, .int 4, rfl, _, _, rfl, rfl, szL (by show 3 ≤ 1000000; decide), fun l6 hl6 => ?_⟩
  have s7 := s6.new (o := .lst [.bl false, .bl true, .bl false]) hl6
  have t7 := (Same.refl H6).new (o := .lst [.bl false, .bl true, .bl false]) hl6
  have g7 := upd_same (H := H6) (a := l6) (o := .lst [.bl false, .bl true, .bl false])
  refine ⟨_, _, .lst (SqL.of (t7 _ _ g64)) (dp_bools [false, true, false]), .lst (SqL.of g7) (dp_bools [false, true, false]), by decide +kernel, by decide +kernel, _, rfl, ifF (by decide +kernel) ?_⟩
  refine ⟨szL (by show 7 ≤ 1000000; decide), fun l7 hl7 => ?_⟩
  have s8 := s7.new (o := .lst [.str "InvalidName", .str "InvalidWord", .str "InvalidWish", .str "InvalidIndex", .str "UnknownName", .str "Broken", .str "NothingToUndo"]) hl7
  rcases q with ⟨hd, hfi, q⟩ | ⟨dd, v, hne, hd, hdd, q⟩
  · exact absurd hfi (by decide)
  refine ⟨.int 4, rfl, rfl, _, rfl, ifF (by decide +kernel) ?_⟩
  refine ⟨.ref l7, rfl, .int 4, rfl, l7, _, 4, _, rfl, rfl, SqL.of upd_same, atI_nat (j := 4) rfl, .int 4, rfl, rfl, _, rfl, ifF (by decide +kernel) ⟨rfl, .ref p.1, rfl, rfl, dd, _, v, hd, s8 _ _ hdd, by simp [List.lookup], szL (by show 2 ≤ 1000000; decide), fun l8 hl8 => ?_⟩⟩
  exact q l8 _ (s8.new hl8) (s8.free hl8) upd_same
theorem okLWordBr (T : TxtA K mg) {p : Addr × Obj} {d : Option Addr} (hz : Zc (.ref T.Br) d p.2) (hf : ∃ vs, p.2.data = .fields vs) :
    FnXp P w K mg base CX0 false 4 T.l_word.f T.l_word.fd pLWord (spLWord p.1 d "index" "Broken") p := by
  refine funXp (k := 3) T.l_word.F scLWord (fun vs H Q E ⟨eq, _⟩ => eq ▸ rfl) fun cdv A outer s H vs Q E c ⟨eq, hx, q⟩ => ?_
  subst eq
  have hpn := c.pin rfl
  have cau := T.cBr
  have ni : true = true → PySem.W.findIn K (.ref T.Br) "index" = some none := fun _ => T.xBr.noN
  have ng : false = true → PySem.W.findIn K (.ref T.Br) "given" = some none := fun z => Bool.noConfusion z
  have kit := cau.kit
  simp only [List.map_cons, List.map_nil, List.cons.injEq, and_true] at kit
  obtain ⟨k0, k1, k2, k3, k4, k5, k6, k7, k8, k9, k10, k11, k12⟩ := kit
  refine ⟨_, pss_cons (ps_set (i := 1) scLWord.nd rfl (Or.inl rfl) (pe_lst (pa_cons (pe_callB (call_isP hpn cau.exc hz hf) (by rfl) T.isinstance (by decide +kernel) (pa_cons (pv 0) (pa_cons (pe_glob (v := .ref T.IN) rfl T.gIN rfl) pa_nil))) (pa_cons (pe_callB (call_isP hpn cau.exc hz hf) (by rfl) T.isinstance (by decide +kernel) (pa_cons (pv 0) (pa_cons (pe_glob (v := .ref T.IW) rfl T.gIW rfl) pa_nil))) (pa_cons (pe_callB (call_isP hpn cau.exc hz hf) (by rfl) T.isinstance (by decide +kernel) (pa_cons (pv 0) (pa_cons (pe_glob (v := .ref T.IWi) rfl T.gIWi rfl) pa_nil))) pa_nil)))))
      (pss_cons (ps_set (i := 1) scLWord.nd rfl (Or.inl rfl) (pe_op op_cat (pv 1) (pe_lst (pa_cons (pe_callB (call_isP hpn cau.exc hz hf) (by rfl) T.isinstance (by decide +kernel) (pa_cons (pv 0) (pa_cons (pe_glob (v := .ref T.II) rfl T.xII.gC rfl) pa_nil))) (pa_cons (pe_callB (call_isP hpn cau.exc hz hf) (by rfl) T.isinstance (by decide +kernel) (pa_cons (pv 0) (pa_cons (pe_glob (v := .ref T.UN) rfl T.xUN.gC rfl) pa_nil))) (pa_cons (pe_callB (call_isP hpn cau.exc hz hf) (by rfl) T.isinstance (by decide +kernel) (pa_cons (pv 0) (pa_cons (pe_glob (v := .ref T.Br) rfl T.xBr.gC rfl) pa_nil))) pa_nil))))))
      (pss_cons (ps_expr (pe_bm PySem.F.plainAttrs_list PySem.F.slot_list_append PySem.F.type_list_append mt_append (pv 1) (pa_cons (pe_callB (call_isP hpn cau.exc hz hf) (by rfl) T.isinstance (by decide +kernel) (pa_cons (pv 0) (pa_cons (pe_glob (v := .ref T.NU) rfl T.xNU.gC rfl) pa_nil))) pa_nil)))
      (pss_cons (ps_set (i := 2) scLWord.nd rfl (Or.inl rfl) (pe_lst (pa_cons (pe_callB (call_isP hpn cau.exc hz hf) (by rfl) T.isinstance (by decide +kernel) (pa_cons (pv 0) (pa_cons (pe_glob (v := .ref T.WV) rfl T.gWV rfl) pa_nil))) (pa_cons (pe_callB (call_isP hpn cau.exc hz hf) (by rfl) T.isinstance (by decide +kernel) (pa_cons (pv 0) (pa_cons (pe_glob (v := .ref T.WN) rfl T.gWN rfl) pa_nil))) (pa_cons (pe_callB (call_isP hpn cau.exc hz hf) (by rfl) T.isinstance (by decide +kernel) (pa_cons (pv 0) (pa_cons (pe_glob (v := .ref T.NA) rfl T.gNA rfl) pa_nil))) pa_nil)))))
      (pss_cons (ps_set (i := 3) scLWord.nd rfl (Or.inl rfl) (pe_lst (pa_cons (pe_callB (call_isP hpn cau.exc hz hf) (by rfl) T.isinstance (by decide +kernel) (pa_cons (pv 0) (pa_cons (pe_tyB "ValueError" (by rfl) T.ValueError (by decide +kernel)) pa_nil))) (pa_cons (pe_callB (call_isP hpn cau.exc hz hf) (by rfl) T.isinstance (by decide +kernel) (pa_cons (pv 0) (pa_cons (pe_tyB "LookupError" (by rfl) T.LookupError (by decide +kernel)) pa_nil))) (pa_cons (pe_callB (call_isP hpn cau.exc hz hf) (by rfl) T.isinstance (by decide +kernel) (pa_cons (pv 0) (pa_cons (pe_tyB "ArithmeticError" (by rfl) T.ArithmeticError (by decide +kernel)) pa_nil))) pa_nil)))))
      (pss_cons (ps_if (PW.pt (pw_or (pt_cmpR op_ne (pe_bm PySem.F.plainAttrs_list PySem.F.slot_list_count PySem.F.type_list_count (mt_countB c) (pv 1) (pa_cons pe_bl pa_nil)) pe_int (nomark _)) (pw_or1 (pt_cmpR (op_neD c.rm.units) (pv 2) (pv 3) (nomark _))))) (pss_one (ps_ret (pe_lst (pa_cons pe_str (pa_cons pe_non pa_nil))))) pss_nil)
      (pss_cons (ps_set (i := 4) scLWord.nd rfl (Or.inl rfl) (pe_bm PySem.F.plainAttrs_list PySem.F.slot_list_index PySem.F.type_list_index mt_index (pv 1) (pa_cons pe_bl pa_nil)))
      (pss_cons (ps_if (pt_cmpR (op_neD c.rm.units) (pv 2) (pe_lst (pa_cons (pe_cmpR op_lt (pv 4) pe_int (nomark _)) (pa_cons (pe_cmpR op_eq (pv 4) pe_int (nomark _)) (pa_cons (pe_cmpR op_gt (pv 4) pe_int (nomark _)) pa_nil)))) (nomark _)) (pss_one (ps_ret (pe_lst (pa_cons pe_str (pa_cons pe_non pa_nil))))) pss_nil)
      (pss_cons (ps_set (i := 5) scLWord.nd rfl (Or.inl rfl) (pe_lst (pa_cons pe_str (pa_cons pe_str (pa_cons pe_str (pa_cons pe_str (pa_cons pe_str (pa_cons pe_str (pa_cons pe_str pa_nil)))))))))
      (pss_cons (ps_if (pt_cmpR op_eq (pv 4) pe_int (nomark _)) (pss_one (ps_ret (pe_lst (pa_cons (pe_ix ix_list (pv 5) (pv 4) (fun _ _ => rfl)) (pa_cons pe_non pa_nil))))) pss_nil)
      (pss_one (ps_ret (pe_lst (pa_cons (pe_ix ix_list (pv 5) (pv 4) (fun _ _ => rfl)) (pa_cons (pe_ifExp (pt_cmpR op_eq (pv 4) pe_int (nomark _)) (pe_xpB hpn cau.xf ni hz hf (pv 0)) (pe_xpB hpn cau.xf ng hz hf (pv 0))) pa_nil)))))))))))))), ?_⟩
  refine ⟨.ref p.1, rfl, _, _, _, rfl, fun u h => h, k0, hx, .ref p.1, rfl, _, _, _, rfl, fun u h => h, k1, hx, .ref p.1, rfl, _, _, _, rfl, fun u h => h, k2, hx, szL (by show 3 ≤ 1000000; decide), fun l1 hl1 => ?_⟩
  have s1 := (Same.refl H).new (o := .lst [.bl false, .bl false, .bl false]) hl1
  have hx1 := hx.same s1
  have g1 : upd H l1 (.lst [.bl false, .bl false, .bl false]) l1 = some (.lst [.bl false, .bl false, .bl false]) := upd_same
  generalize upd H l1 (.lst [.bl false, .bl false, .bl false]) = H1 at s1 hx1 g1 ⊢
  refine ⟨.ref l1, rfl, .ref p.1, rfl, _, _, _, rfl, fun u h => h, k3, hx1, .ref p.1, rfl, _, _, _, rfl, fun u h => h, k4, hx1, .ref p.1, rfl, _, _, _, rfl, fun u h => h, k5, hx1, szL (by show 3 ≤ 1000000; decide), fun l2 hl2 => ?_⟩
  have s2 := s1.new (o := .lst [.bl false, .bl false, .bl true]) hl2
  have s12 := (Same.refl H1).new (o := .lst [.bl false, .bl false, .bl true]) hl2
  refine ⟨l1, l2, _, _, rfl, rfl, s12 _ _ g1, upd_same, szL (by show 6 ≤ 1000000; decide), fun l3 hl3 => ?_⟩
  have s3 := s2.new (o := .lst [.bl false, .bl false, .bl false, .bl false, .bl false, .bl true]) hl3
  have hl3H : H l3 = none := s2.free hl3
  have hx3 := hx.same s3
  have g3 := upd_same (H := upd H1 l2 (.lst [.bl false, .bl false, .bl true])) (a := l3) (o := .lst [.bl false, .bl false, .bl false, .bl false, .bl false, .bl true])
  replace s3 : Same H (upd (upd H1 l2 (.lst [.bl false, .bl false, .bl true])) l3 (.lst [.bl false, .bl false, .bl false, .bl false, .bl false, .bl true])) := s3
  show tSeq _ _ _ _ (upd (upd H1 l2 (.lst [.bl false, .bl false, .bl true])) l3 (.lst [.bl false, .bl false, .bl false, .bl false, .bl false, .bl true]))
  generalize upd (upd H1 l2 (.lst [.bl false, .bl false, .bl true])) l3 (.lst [.bl false, .bl false, .bl false, .bl false, .bl false, .bl true]) = H3 at s3 hx3 g3 ⊢
  refine ⟨.ref l3, rfl, .inl ⟨rfl, _, SqL.of g3⟩, .ref p.1, rfl, _, _, _, rfl, fun u h => h, k6, hx3, l3, _, _, rfl, rfl, g3, by rw [sizeLine_eq]; decide, ?_⟩
  have s4 : Same H (upd H3 l3 (.lst [.bl false, .bl false, .bl false, .bl false, .bl false, .bl true, .bl false])) := fun c o hc => by rw [upd_ne (ne_of_none hc hl3H)]; exact s3 c o hc
  have hx4 := hx.same s4
  have g4 := upd_same (H := H3) (a := l3) (o := .lst [.bl false, .bl false, .bl false, .bl false, .bl false, .bl true, .bl false])
  show tSeq _ _ _ _ (upd H3 l3 (.lst [.bl false, .bl false, .bl false, .bl false, .bl false, .bl true, .bl false]))
  generalize upd H3 l3 (.lst [.bl false, .bl false, .bl false, .bl false, .bl false, .bl true, .bl false]) = H4 at s4 hx4 g4 ⊢
  refine ⟨.ref p.1, rfl, _, _, _, rfl, fun u h => h, k7, hx4, .ref p.1, rfl, _, _, _, rfl, fun u h => h, k8, hx4, .ref p.1, rfl, _, _, _, rfl, fun u h => h, k9, hx4, szL (by show 3 ≤ 1000000; decide), fun l4 hl4 => ?_⟩
  have s5 := s4.new (o := .lst [.bl false, .bl false, .bl true]) hl4
  have t5 := (Same.refl H4).new (o := .lst [.bl false, .bl false, .bl true]) hl4
  have g5 := upd_same (H := H4) (a := l4) (o := .lst [.bl false, .bl false, .bl true])
  have hx5 := hx.same s5
  have g53 := t5 _ _ g4
  show tSeq _ _ _ _ (upd H4 l4 (.lst [.bl false, .bl false, .bl true]))
  generalize upd H4 l4 (.lst [.bl false, .bl false, .bl true]) = H5 at s5 hx5 g5 g53 t5 ⊢
  refine ⟨.ref p.1, rfl, _, _, _, rfl, fun u h => h, k10, hx5, .ref p.1, rfl, _, _, _, rfl, fun u h => h, k11, hx5, .ref p.1, rfl, _, _, _, rfl, fun u h => h, k12, hx5, szL (by show 3 ≤ 1000000; decide), fun l5 hl5 => ?_⟩
  have s6 := s5.new (o := .lst [.bl false, .bl false, .bl true]) hl5
  have t6 := (Same.refl H5).new (o := .lst [.bl false, .bl false, .bl true]) hl5
  have g6 := upd_same (H := H5) (a := l5) (o := .lst [.bl false, .bl false, .bl true])
  have hx6 := hx.same s6
  have g63 := t6 _ _ g53
  have g64 := t6 _ _ g5
  show tSeq _ _ _ _ (upd H5 l5 (.lst [.bl false, .bl false, .bl true]))
  generalize upd H5 l5 (.lst [.bl false, .bl false, .bl true]) = H6 at s6 hx6 g6 g63 g64 t6 ⊢
  refine ⟨.ref l3, rfl, .inl ⟨rfl, _, SqL.of g63⟩, l3, [false, false, false, false, false, true, false], true, rfl, rfl, SqL.of g63, rfl, _, rfl, ifF (by decide +kernel) ?_⟩
  refine ⟨.ref l4, rfl, .ref l5, rfl, _, _, .lst (SqL.of g64) (dp_bools [false, false, true]), .lst (SqL.of g6) (dp_bools [false, false, true]), by decide +kernel, by decide +kernel, _, rfl, ifF (by decide +kernel) ?_⟩
  refine ⟨.ref l3, rfl, .inl ⟨rfl, _, SqL.of g63⟩, l3, [.bl false, .bl false, .bl false, .bl false, .bl false, .bl true, .bl false], .bl true, 5, .bl true, rfl, rfl, SqL.of g63, rfl, rfl, rfl, rfl, fun m z' hm hz' => ?_, ?_⟩
  · have : m = 0 ∨ m = 1 ∨ m = 2 ∨ m = 3 ∨ m = 4 := by omega
    rcases this with rfl | rfl | rfl | rfl | rfl <;> (cases hz'; rfl)
  have n43 : True := trivial
  refine ⟨.ref l4, rfl, .int 5, rfl, _, _, rfl, rfl, .int 5, rfl, rfl, .int 5, rfl, _, _, rfl, rfl, szL (by show 3 ≤ 1000000; decide), fun l6 hl6 => ?_⟩
  have s7 := s6.new (o := .lst [.bl false, .bl false, .bl true]) hl6
  have t7 := (Same.refl H6).new (o := .lst [.bl false, .bl false, .bl true]) hl6
  have g7 := upd_same (H := H6) (a := l6) (o := .lst [.bl false, .bl false, .bl true])
  refine ⟨_, _, .lst (SqL.of (t7 _ _ g64)) (dp_bools [false, false, true]), .lst (SqL.of g7) (dp_bools [false, false, true]), by decide +kernel, by decide +kernel, _, rfl, ifF (by decide +kernel) ?_⟩
  refine ⟨szL (by show 7 ≤ 1000000; decide), fun l7 hl7 => ?_⟩
  have s8 := s7.new (o := .lst [.str "InvalidName", .str "InvalidWord", .str "InvalidWish", .str "InvalidIndex", .str "UnknownName", .str "Broken", .str "NothingToUndo"]) hl7
  rcases q with ⟨hd, hfi, q⟩ | ⟨dd, v, hne, hd, hdd, q⟩
  · exact absurd hfi (by decide)
  refine ⟨.int 5, rfl, rfl, _, rfl, ifF (by decide +kernel) ?_⟩
  refine ⟨.ref l7, rfl, .int 5, rfl, l7, _, 5, _, rfl, rfl, SqL.of upd_same, atI_nat (j := 5) rfl, .int 5, rfl, rfl, _, rfl, ifT (by decide +kernel) ⟨rfl, .ref p.1, rfl, rfl, dd, _, v, hd, s8 _ _ hdd, by simp [List.lookup], szL (by show 2 ≤ 1000000; decide), fun l8 hl8 => ?_⟩⟩
  exact q l8 _ (s8.new hl8) (s8.free hl8) upd_same
theorem okLWordNU (T : TxtA K mg) {p : Addr × Obj} {d : Option Addr} (hz : Zc (.ref T.NU) d p.2) (hf : ∃ vs, p.2.data = .fields vs) :
    FnXp P w K mg base CX0 false 4 T.l_word.f T.l_word.fd pLWord (spLWord p.1 d "" "NothingToUndo") p := by
  refine funXp (k := 3) T.l_word.F scLWord (fun vs H Q E ⟨eq, _⟩ => eq ▸ rfl) fun cdv A outer s H vs Q E c ⟨eq, hx, q⟩ => ?_
  subst eq
  have hpn := c.pin rfl
  have cau := T.cNU
  have ni : false = true → PySem.W.findIn K (.ref T.NU) "index" = some none := fun z => Bool.noConfusion z
  have ng : false = true → PySem.W.findIn K (.ref T.NU) "given" = some none := fun z => Bool.noConfusion z
  have kit := cau.kit
  simp only [List.map_cons, List.map_nil, List.cons.injEq, and_true] at kit
  obtain ⟨k0, k1, k2, k3, k4, k5, k6, k7, k8, k9, k10, k11, k12⟩ := kit
  refine ⟨_, pss_cons (ps_set (i := 1) scLWord.nd rfl (Or.inl rfl) (pe_lst (pa_cons (pe_callB (call_isP hpn cau.exc hz hf) (by rfl) T.isinstance (by decide +kernel) (pa_cons (pv 0) (pa_cons (pe_glob (v := .ref T.IN) rfl T.gIN rfl) pa_nil))) (pa_cons (pe_callB (call_isP hpn cau.exc hz hf) (by rfl) T.isinstance (by decide +kernel) (pa_cons (pv 0) (pa_cons (pe_glob (v := .ref T.IW) rfl T.gIW rfl) pa_nil))) (pa_cons (pe_callB (call_isP hpn cau.exc hz hf) (by rfl) T.isinstance (by decide +kernel) (pa_cons (pv 0) (pa_cons (pe_glob (v := .ref T.IWi) rfl T.gIWi rfl) pa_nil))) pa_nil)))))
      (pss_cons (ps_set (i := 1) scLWord.nd rfl (Or.inl rfl) (pe_op op_cat (pv 1) (pe_lst (pa_cons (pe_callB (call_isP hpn cau.exc hz hf) (by rfl) T.isinstance (by decide +kernel) (pa_cons (pv 0) (pa_cons (pe_glob (v := .ref T.II) rfl T.xII.gC rfl) pa_nil))) (pa_cons (pe_callB (call_isP hpn cau.exc hz hf) (by rfl) T.isinstance (by decide +kernel) (pa_cons (pv 0) (pa_cons (pe_glob (v := .ref T.UN) rfl T.xUN.gC rfl) pa_nil))) (pa_cons (pe_callB (call_isP hpn cau.exc hz hf) (by rfl) T.isinstance (by decide +kernel) (pa_cons (pv 0) (pa_cons (pe_glob (v := .ref T.Br) rfl T.xBr.gC rfl) pa_nil))) pa_nil))))))
      (pss_cons (ps_expr (pe_bm PySem.F.plainAttrs_list PySem.F.slot_list_append PySem.F.type_list_append mt_append (pv 1) (pa_cons (pe_callB (call_isP hpn cau.exc hz hf) (by rfl) T.isinstance (by decide +kernel) (pa_cons (pv 0) (pa_cons (pe_glob (v := .ref T.NU) rfl T.xNU.gC rfl) pa_nil))) pa_nil)))
      (pss_cons (ps_set (i := 2) scLWord.nd rfl (Or.inl rfl) (pe_lst (pa_cons (pe_callB (call_isP hpn cau.exc hz hf) (by rfl) T.isinstance (by decide +kernel) (pa_cons (pv 0) (pa_cons (pe_glob (v := .ref T.WV) rfl T.gWV rfl) pa_nil))) (pa_cons (pe_callB (call_isP hpn cau.exc hz hf) (by rfl) T.isinstance (by decide +kernel) (pa_cons (pv 0) (pa_cons (pe_glob (v := .ref T.WN) rfl T.gWN rfl) pa_nil))) (pa_cons (pe_callB (call_isP hpn cau.exc hz hf) (by rfl) T.isinstance (by decide +kernel) (pa_cons (pv 0) (pa_cons (pe_glob (v := .ref T.NA) rfl T.gNA rfl) pa_nil))) pa_nil)))))
      (pss_cons (ps_set (i := 3) scLWord.nd rfl (Or.inl rfl) (pe_lst (pa_cons (pe_callB (call_isP hpn cau.exc hz hf) (by rfl) T.isinstance (by decide +kernel) (pa_cons (pv 0) (pa_cons (pe_tyB "ValueError" (by rfl) T.ValueError (by decide +kernel)) pa_nil))) (pa_cons (pe_callB (call_isP hpn cau.exc hz hf) (by rfl) T.isinstance (by decide +kernel) (pa_cons (pv 0) (pa_cons (pe_tyB "LookupError" (by rfl) T.LookupError (by decide +kernel)) pa_nil))) (pa_cons (pe_callB (call_isP hpn cau.exc hz hf) (by rfl) T.isinstance (by decide +kernel) (pa_cons (pv 0) (pa_cons (pe_tyB "ArithmeticError" (by rfl) T.ArithmeticError (by decide +kernel)) pa_nil))) pa_nil)))))
      (pss_cons (ps_if (PW.pt (pw_or (pt_cmpR op_ne (pe_bm PySem.F.plainAttrs_list PySem.F.slot_list_count PySem.F.type_list_count (mt_countB c) (pv 1) (pa_cons pe_bl pa_nil)) pe_int (nomark _)) (pw_or1 (pt_cmpR (op_neD c.rm.units) (pv 2) (pv 3) (nomark _))))) (pss_one (ps_ret (pe_lst (pa_cons pe_str (pa_cons pe_non pa_nil))))) pss_nil)
      (pss_cons (ps_set (i := 4) scLWord.nd rfl (Or.inl rfl) (pe_bm PySem.F.plainAttrs_list PySem.F.slot_list_index PySem.F.type_list_index mt_index (pv 1) (pa_cons pe_bl pa_nil)))
      (pss_cons (ps_if (pt_cmpR (op_neD c.rm.units) (pv 2) (pe_lst (pa_cons (pe_cmpR op_lt (pv 4) pe_int (nomark _)) (pa_cons (pe_cmpR op_eq (pv 4) pe_int (nomark _)) (pa_cons (pe_cmpR op_gt (pv 4) pe_int (nomark _)) pa_nil)))) (nomark _)) (pss_one (ps_ret (pe_lst (pa_cons pe_str (pa_cons pe_non pa_nil))))) pss_nil)
      (pss_cons (ps_set (i := 5) scLWord.nd rfl (Or.inl rfl) (pe_lst (pa_cons pe_str (pa_cons pe_str (pa_cons pe_str (pa_cons pe_str (pa_cons pe_str (pa_cons pe_str (pa_cons pe_str pa_nil)))))))))
      (pss_cons (ps_if (pt_cmpR op_eq (pv 4) pe_int (nomark _)) (pss_one (ps_ret (pe_lst (pa_cons (pe_ix ix_list (pv 5) (pv 4) (fun _ _ => rfl)) (pa_cons pe_non pa_nil))))) pss_nil)
      (pss_one (ps_ret (pe_lst (pa_cons (pe_ix ix_list (pv 5) (pv 4) (fun _ _ => rfl)) (pa_cons (pe_ifExp (pt_cmpR op_eq (pv 4) pe_int (nomark _)) (pe_xpB hpn cau.xf ni hz hf (pv 0)) (pe_xpB hpn cau.xf ng hz hf (pv 0))) pa_nil)))))))))))))), ?_⟩
  refine ⟨.ref p.1, rfl, _, _, _, rfl, fun u h => h, k0, hx, .ref p.1, rfl, _, _, _, rfl, fun u h => h, k1, hx, .ref p.1, rfl, _, _, _, rfl, fun u h => h, k2, hx, szL (by show 3 ≤ 1000000; decide), fun l1 hl1 => ?_⟩
  have s1 := (Same.refl H).new (o := .lst [.bl false, .bl false, .bl false]) hl1
  have hx1 := hx.same s1
  have g1 : upd H l1 (.lst [.bl false, .bl false, .bl false]) l1 = some (.lst [.bl false, .bl false, .bl false]) := upd_same
  generalize upd H l1 (.lst [.bl false, .bl false, .bl false]) = H1 at s1 hx1 g1 ⊢
  refine ⟨.ref l1, rfl, .ref p.1, rfl, _, _, _, rfl, fun u h => h, k3, hx1, .ref p.1, rfl, _, _, _, rfl, fun u h => h, k4, hx1, .ref p.1, rfl, _, _, _, rfl, fun u h => h, k5, hx1, szL (by show 3 ≤ 1000000; decide), fun l2 hl2 => ?_⟩
  have s2 := s1.new (o := .lst [.bl false, .bl false, .bl false]) hl2
  have s12 := (Same.refl H1).new (o := .lst [.bl false, .bl false, .bl false]) hl2
  refine ⟨l1, l2, _, _, rfl, rfl, s12 _ _ g1, upd_same, szL (by show 6 ≤ 1000000; decide), fun l3 hl3 => ?_⟩
  have s3 := s2.new (o := .lst [.bl false, .bl false, .bl false, .bl false, .bl false, .bl false]) hl3
  have hl3H : H l3 = none := s2.free hl3
  have hx3 := hx.same s3
  have g3 := upd_same (H := upd H1 l2 (.lst [.bl false, .bl false, .bl false])) (a := l3) (o := .lst [.bl false, .bl false, .bl false, .bl false, .bl false, .bl false])
  replace s3 : Same H (upd (upd H1 l2 (.lst [.bl false, .bl false, .bl false])) l3 (.lst [.bl false, .bl false, .bl false, .bl false, .bl false, .bl false])) := s3
  show tSeq _ _ _ _ (upd (upd H1 l2 (.lst [.bl false, .bl false, .bl false])) l3 (.lst [.bl false, .bl false, .bl false, .bl false, .bl false, .bl false]))
  generalize upd (upd H1 l2 (.lst [.bl false, .bl false, .bl false])) l3 (.lst [.bl false, .bl false, .bl false, .bl false, .bl false, .bl false]) = H3 at s3 hx3 g3 ⊢
  refine ⟨.ref l3, rfl, .inl ⟨rfl, _, SqL.of g3⟩, .ref p.1, rfl, _, _, _, rfl, fun u h => h, k6, hx3, l3, _, _, rfl, rfl, g3, by rw [sizeLine_eq]; decide, ?_⟩
  have s4 : Same H (upd H3 l3 (.lst [.bl false, .bl false, .bl false, .bl false, .bl false, .bl false, .bl true])) := fun c o hc => by rw [upd_ne (ne_of_none hc hl3H)]; exact s3 c o hc
  have hx4 := hx.same s4
  have g4 := upd_same (H := H3) (a := l3) (o := .lst [.bl false, .bl false, .bl false, .bl false, .bl false, .bl false, .bl true])
  show tSeq _ _ _ _ (upd H3 l3 (.lst [.bl false, .bl false, .bl false, .bl false, .bl false, .bl false, .bl true]))
  generalize upd H3 l3 (.lst [.bl false, .bl false, .bl false, .bl false, .bl false, .bl false, .bl true]) = H4 at s4 hx4 g4 ⊢
  refine ⟨.ref p.1, rfl, _, _, _, rfl, fun u h => h, k7, hx4, .ref p.1, rfl, _, _, _, rfl, fun u h => h, k8, hx4, .ref p.1, rfl, _, _, _, rfl, fun u h => h, k9, hx4, szL (by show 3 ≤ 1000000; decide), fun l4 hl4 => ?_⟩
  have s5 := s4.new (o := .lst [.bl false, .bl false, .bl true]) hl4
  have t5 := (Same.refl H4).new (o := .lst [.bl false, .bl false, .bl true]) hl4
  have g5 := upd_same (H := H4) (a := l4) (o := .lst [.bl false, .bl false, .bl true])
  have hx5 := hx.same s5
  have g53 := t5 _ _ g4
  show tSeq _ _ _ _ (upd H4 l4 (.lst [.bl false, .bl false, .bl true]))
  generalize upd H4 l4 (.lst [.bl false, .bl false, .bl true]) = H5 at s5 hx5 g5 g53 t5 ⊢
  refine ⟨.ref p.1, rfl, _, _, _, rfl, fun u h => h, k10, hx5, .ref p.1, rfl, _, _, _, rfl, fun u h => h, k11, hx5, .ref p.1, rfl, _, _, _, rfl, fun u h => h, k12, hx5, szL (by show 3 ≤ 1000000; decide), fun l5 hl5 => ?_⟩
  have s6 := s5.new (o := .lst [.bl false, .bl false, .bl true]) hl5
  have t6 := (Same.refl H5).new (o := .lst [.bl false, .bl false, .bl true]) hl5
  have g6 := upd_same (H := H5) (a := l5) (o := .lst [.bl false, .bl false, .bl true])
  have hx6 := hx.same s6
  have g63 := t6 _ _ g53
  have g64 := t6 _ _ g5
  show tSeq _ _ _ _ (upd H5 l5 (.lst [.bl false, .bl false, .bl true]))
  generalize upd H5 l5 (.lst [.bl false, .bl false, .bl true]) = H6 at s6 hx6 g6 g63 g64 t6 ⊢
  refine ⟨.ref l3, rfl, .inl ⟨rfl, _, SqL.of g63⟩, l3, [false, false, false, false, false, false, true], true, rfl, rfl, SqL.of g63, rfl, _, rfl, ifF (by decide +kernel) ?_⟩
  refine ⟨.ref l4, rfl, .ref l5, rfl, _, _, .lst (SqL.of g64) (dp_bools [false, false, true]), .lst (SqL.of g6) (dp_bools [false, false, true]), by decide +kernel, by decide +kernel, _, rfl, ifF (by decide +kernel) ?_⟩
  refine ⟨.ref l3, rfl, .inl ⟨rfl, _, SqL.of g63⟩, l3, [.bl false, .bl false, .bl false, .bl false, .bl false, .bl false, .bl true], .bl true, 6, .bl true, rfl, rfl, SqL.of g63, rfl, rfl, rfl, rfl, fun m z' hm hz' => ?_, ?_⟩
  · have : m = 0 ∨ m = 1 ∨ m = 2 ∨ m = 3 ∨ m = 4 ∨ m = 5 := by omega
    rcases this with rfl | rfl | rfl | rfl | rfl | rfl <;> (cases hz'; rfl)
  have n43 : True := trivial
  refine ⟨.ref l4, rfl, .int 6, rfl, _, _, rfl, rfl, .int 6, rfl, rfl, .int 6, rfl, _, _, rfl, rfl, szL (by show 3 ≤ 1000000; decide), fun l6 hl6 => ?_⟩
  have s7 := s6.new (o := .lst [.bl false, .bl false, .bl true]) hl6
  have t7 := (Same.refl H6).new (o := .lst [.bl false, .bl false, .bl true]) hl6
  have g7 := upd_same (H := H6) (a := l6) (o := .lst [.bl false, .bl false, .bl true])
  refine ⟨_, _, .lst (SqL.of (t7 _ _ g64)) (dp_bools [false, false, true]), .lst (SqL.of g7) (dp_bools [false, false, true]), by decide +kernel, by decide +kernel, _, rfl, ifF (by decide +kernel) ?_⟩
  refine ⟨szL (by show 7 ≤ 1000000; decide), fun l7 hl7 => ?_⟩
  have s8 := s7.new (o := .lst [.str "InvalidName", .str "InvalidWord", .str "InvalidWish", .str "InvalidIndex", .str "UnknownName", .str "Broken", .str "NothingToUndo"]) hl7
  rcases q with ⟨hd, hfi, q⟩ | ⟨dd, v, hne, _⟩
  · refine ⟨.int 6, rfl, rfl, _, rfl, ifT (by decide +kernel) ?_⟩
    refine ⟨.ref l7, rfl, .int 6, rfl, l7, _, 6, _, rfl, rfl, SqL.of upd_same, atI_nat (j := 6) rfl, szL (by show 2 ≤ 1000000; decide), fun l8 hl8 => ?_⟩
    exact q l8 _ (s8.new hl8) (s8.free hl8) upd_same
  · exact absurd rfl hne
end
end Spf
end
section
set_option maxHeartbeats 4000000
/-! What the call tells. -/
namespace Spf
open PySem PySem.Spec PyProof.Rows L2 L2H HotX LamX
section
variable {P : Program} {w : World} {K : PySem.W.Frag} {mg : Str → Option Value} {base : Heap}
/-- the four classes: the field, the word -/
def Sort4 (T : TxtA K mg) (cls : Value) (fi wd : Str) : Prop := (cls = .ref T.II ∧ fi = "given" ∧ wd = "InvalidIndex") ∨ (cls = .ref T.UN ∧ fi = "given" ∧ wd = "UnknownName") ∨ (cls = .ref T.Br ∧ fi = "index" ∧ wd = "Broken") ∨ (cls = .ref T.NU ∧ fi = "" ∧ wd = "NothingToUndo")
theorem Sort4.caught {T : TxtA K mg} {cls : Value} {fi wd : Str} : Sort4 T cls fi wd → PySem.W.exmAny K cls [.ref T.WV, .ref T.WN, .ref T.NA] = some true
  | .inl ⟨e, _⟩ => e ▸ T.cII.catch_
  | .inr (.inl ⟨e, _⟩) => e ▸ T.cUN.catch_
  | .inr (.inr (.inl ⟨e, _⟩)) => e ▸ T.cBr.catch_
  | .inr (.inr (.inr ⟨e, _⟩)) => e ▸ T.cNU.catch_
theorem Sort4.word {T : TxtA K mg} {cls : Value} {fi wd : Str} {p : Addr × Obj} {d : Option Addr} (hz : Zc cls d p.2) (hf : ∃ vs, p.2.data = .fields vs) : Sort4 T cls fi wd → FnXp P w K mg base CX0 false 4 T.l_word.f T.l_word.fd pLWord (spLWord p.1 d fi wd) p
  | .inl ⟨e, e1, e2⟩ => by subst e e1 e2; exact okLWordII T hz hf
  | .inr (.inl ⟨e, e1, e2⟩) => by subst e e1 e2; exact okLWordUN T hz hf
  | .inr (.inr (.inl ⟨e, e1, e2⟩)) => by subst e e1 e2; exact okLWordBr T hz hf
  | .inr (.inr (.inr ⟨e, e1, e2⟩)) => by subst e e1 e2; exact okLWordNU T hz hf
/-- what told makes of the call's reading -/
def tfTold (T : TxtA K mg) (tl : XK → Hp → VK → Prop) (H : Hp) (Q : VK) : Prop := ∀ (E' : XK) (Q' : VK), (∀ v H1, (∀ l H2, Same H1 H2 → H1 l = none → H2 l = some (.lst [.str "told", v]) → Q (.ref l) H2) → Q' v H1) →
  (∀ cls d H1 fi wd, Sort4 T cls fi wd → (∀ a, spLWord a d fi wd [.ref a] H1 Q E0) → E' cls d H1) → tl E' H Q'
abbrev vLTold : List Str := ["_law_call", "_law_back", "_law_e"]
abbrev pLTold : List Str := ["_law_call"]
theorem scLTold : FnScope vLTold pLTold (defScope (top 75)) := ⟨rfl, rfl, rfl, by decide +kernel, rfl, by decide +kernel, by decide +kernel⟩
/-- the suite: the exception asked -/
def tsTold (T : TxtA K mg) (a : Addr) (cls : Value) (d : Option Addr) : TS := fun D σ H => ∃ fi wd, Sort4 T cls fi wd ∧ (σ.length = 3 → tRet (tCallS (spLWord a d fi wd) (fun _ => E0) (tCons (tVar 2) tNil)) D σ H)
theorem okLTold {X : Cx} {k : Nat} {p0 : Addr × Obj} (T : TxtA X.K X.mg) (hk : 5 ≤ k) (cdg : Value) (q : Str) : GivesX X false k p0 vLTold "_law_told" (top 75) T.l_told.f cdg "_law_call" q (tfTold T) := by
  intro f c' s0 H0 Q tl pe hc htl c
  refine ⟨_, pss_cons (ps_try_as3 (i := 2) (n := "_law_e") (Wout := fun _ _ _ _ => False) (ts := tsTold T) rfl rfl scLTold.nd rfl rfl rfl rfl rfl T.gWV T.gWN T.gNA (by decide) (by decide) (by decide) (fun u s' ⟨a, B, sI, pins, σ, H, cls, d, e, I, nb, up, sky, na, os, ag, w⟩ => False.elim w) (fun W pn xe tk => pss_one (ps_set (i := 1) scLTold.nd rfl (Or.inl rfl) (pe W pn xe (fun cls d H' => ∀ σ', W cls d σ' H') _ _ tk (fun _ _ σ' _ h => h σ')))) (fun a oe cls d pn hz hf => pss_one ⟨fun pins s σ H D I ⟨fi, wd, h4, h⟩ => ?_⟩))
    (pss_one (ps_ret (pe_lst (pa_cons pe_str (pa_cons (pv 1) pa_nil))))), ?_⟩
  · have c4 := c.mono (show 4 ≤ k by omega)
    obtain ⟨vs, hd⟩ := hf
    have cs : Cxt ((cxX CX0 X.prog X.w X.K X.mg X.base vLTold "_law_told" (defScope (top 75)) T.l_told.f cdg X.A X.stack s0 H0 E0 false p0).suite a ((a, oe) :: pn)) false true 4 (a, oe) :=
      ⟨⟨⟨c4.rm.room.dp, c4.rm.room.un⟩, fun z => Bool.noConfusion z, fun z => Bool.noConfusion z, fun _ => ⟨rfl, vs, hd, hz.2.2 vs hd⟩⟩, rfl, fun _ => List.mem_cons_self⟩
    refine PS.run (X := (cxX CX0 X.prog X.w X.K X.mg X.base vLTold "_law_told" (defScope (top 75)) T.l_told.f cdg X.A X.stack s0 H0 E0 false p0).suite a ((a, oe) :: pn)) (t := tRet (tCallS (spLWord a d fi wd) (fun _ => E0) (tCons (tVar 2) tNil))) ?_ pins s σ H D I (h I.len)
    exact (ps_ret (pe_callXp (x := "_law_word") (X := (cxX CX0 X.prog X.w X.K X.mg X.base vLTold "_law_told" (defScope (top 75)) T.l_told.f cdg X.A X.stack s0 H0 E0 false p0).suite a ((a, oe) :: pn)) (h4.word (p := (a, oe)) hz.zc ⟨vs, hd⟩) cs nogd rfl T.l_word.mg T.l_word.kp T.l_word.b (pa_cons (pv 2) pa_nil)))
  · refine ⟨rfl, hc, htl _ _ (fun v H1 hv => ⟨v, rfl, szL (by show 2 ≤ 1000000; decide), fun l hl => hv l _ ((Same.refl H1).new hl) hl upd_same⟩) (fun cls d H1 fi wd h4 hw σ' => ⟨true, h4.caught, fun _ a ha => ⟨fi, wd, h4, fun hl => ⟨.ref a, ?_, hw a⟩⟩, fun z => Bool.noConfusion z⟩)⟩
    rw [List.length_set] at hl
    rw [List.getElem?_set_self (by omega)]
end
end Spf
end
section
set_option maxHeartbeats 4000000
/-! The law's state and the book's: the same entries, sorted. -/
namespace Spf
open PySem PySem.Spec PyProof.Rows L2 L2H HotX LamX
theorem look_iff : ∀ {hd : Held}, (hd.map (·.1)).Nodup → ∀ {t : Str} {e : Ent}, look hd t = some e ↔ (t, e) ∈ hd
  | [], _, t, e => by simp [look]
  | (u, f) :: hd, nd, t, e => by
    rw [List.map_cons, List.nodup_cons] at nd
    by_cases h : u = t
    · subst h
      have e1 : look ((u, f) :: hd) u = some f := by simp [look]
      rw [e1]
      constructor
      · intro z; cases z; exact List.mem_cons_self
      · intro z
        rcases List.mem_cons.mp z with z | z
        · cases z; rfl
        · exact absurd (List.mem_map_of_mem (f := (·.1)) z) nd.1
    · have e1 : look ((u, f) :: hd) t = look hd t := by simp [look, h]
      rw [e1, look_iff nd.2]
      constructor
      · exact fun z => List.mem_cons_of_mem _ z
      · intro z
        rcases List.mem_cons.mp z with z | z
        · cases z; exact absurd rfl h
        · exact z
theorem look_perm {hd hd' : Held} (nd : (hd.map (·.1)).Nodup) (p : hd.Perm hd') (t : Str) : look hd t = look hd' t := by
  have nd' : (hd'.map (·.1)).Nodup := ((p.map (·.1)).nodup_iff).mp nd
  cases h : look hd t with
  | some e => exact ((look_iff nd').mpr (p.mem_iff.mp ((look_iff nd).mp h))).symm
  | none =>
    cases h' : look hd' t with
    | none => rfl
    | some e => rw [(look_iff nd).mpr (p.mem_iff.mpr ((look_iff nd').mp h'))] at h; cases h
theorem look_sort {hd : Held} (nd : (hd.map (·.1)).Nodup) (t : Str) : look (sortH hd) t = look hd t := (look_perm nd (List.mergeSort_perm _ _).symm t).symm
theorem keeps_congr {hd hd' : Held} (h : ∀ t, look hd t = look hd' t) (w : Wish) : keeps hd w = keeps hd' w := by
  cases w <;> simp only [keeps, h]
theorem brk_congr {hd hd' : Held} (h : ∀ t, look hd t = look hd' t) (ws : List Wish) : brk hd ws = brk hd' ws := by
  unfold brk
  congr 1
  funext w
  rw [keeps_congr h]
theorem named_congr {hd hd' : Held} (h : ∀ t, look hd t = look hd' t) {w : Wish} (n : Named hd w) : Named hd' w := fun t ht => by
  rw [← h]
  exact n t ht
theorem brk_sort {hd : Held} (nd : (hd.map (·.1)).Nodup) (ws : List Wish) : brk (sortH hd) ws = brk hd ws := brk_congr (look_sort nd) ws
theorem sort_perm {hd hd' : Held} (p : hd.Perm hd') (nd : (hd.map (·.1)).Nodup) : sortH hd = sortH hd' := by
  have tr : ∀ a b c : Str × Ent, nameLe a.1 b.1 = true → nameLe b.1 c.1 = true → nameLe a.1 c.1 = true := fun a b c h1 h2 => by
    unfold nameLe at *
    exact decide_eq_true (List.le_trans (of_decide_eq_true h1) (of_decide_eq_true h2))
  have tot : ∀ a b : Str × Ent, (nameLe a.1 b.1 || nameLe b.1 a.1) = true := fun a b => by
    unfold nameLe
    rcases List.le_total a.1.cps.toList b.1.cps.toList with h | h
    · rw [decide_eq_true h]; rfl
    · rw [decide_eq_true h, Bool.or_true]
  have s1 : (sortH hd).Pairwise fun a b => nameLe a.1 b.1 = true := List.pairwise_mergeSort (le := fun a b : Str × Ent => nameLe a.1 b.1) tr tot hd
  have s2 : (sortH hd').Pairwise fun a b => nameLe a.1 b.1 = true := List.pairwise_mergeSort (le := fun a b : Str × Ent => nameLe a.1 b.1) tr tot hd'
  have pp : (sortH hd).Perm (sortH hd') := (List.mergeSort_perm _ _).trans (p.trans (List.mergeSort_perm _ _).symm)
  refine pp.eq_of_pairwise ?_ s1 s2
  intro a b ha hb h1 h2
  unfold nameLe at h1 h2
  have e1 : a.1.cps.toList = b.1.cps.toList := List.le_antisymm (of_decide_eq_true h1) (of_decide_eq_true h2)
  have e2 : a.1 = b.1 := by
    have e3 := Array.toList_inj.mp e1
    obtain ⟨⟨x⟩, u⟩ := a
    obtain ⟨⟨y⟩, v⟩ := b
    cases e3
    rfl
  have ma : (a.1, a.2) ∈ hd := (List.mergeSort_perm _ _).mem_iff.mp ha
  have mb : (b.1, b.2) ∈ hd := p.mem_iff.mpr ((List.mergeSort_perm _ _).mem_iff.mp hb)
  have la := (look_iff nd).mpr ma
  have lb := (look_iff nd).mpr mb
  rw [e2, lb] at la
  exact Prod.ext e2 (Option.some.inj la).symm
theorem putH_perm {hd : Held} (nd : (hd.map (·.1)).Nodup) (t : Str) (e : Ent) : (putH hd t e).Perm ((hd.filter fun kv => decide (kv.1 ≠ t)) ++ [(t, e)]) := by
  induction hd with
  | nil => simp [putH]
  | cons kv hd ih =>
    rw [List.map_cons, List.nodup_cons] at nd
    obtain ⟨u, f⟩ := kv
    by_cases h : u = t
    · subst h
      have e1 : (hd.filter fun kv => decide (kv.1 ≠ u)) = hd := List.filter_eq_self.mpr fun kv hk => decide_eq_true fun z => nd.1 (List.mem_map.mpr ⟨kv, hk, z⟩)
      have e2 : putH ((u, f) :: hd) u e = (u, e) :: hd := by
        unfold putH
        rw [if_pos (by simp)]
        simp only [List.map_cons, if_true]
        congr 1
        refine (List.map_congr_left fun kv hk => ?_).trans (List.map_id _)
        rw [if_neg fun z => nd.1 (List.mem_map.mpr ⟨kv, hk, z⟩)]
        rfl
      rw [e2, List.filter_cons_of_neg (by simp), e1]
      exact (List.perm_append_singleton _ _).symm
    · have e2 : putH ((u, f) :: hd) t e = (u, f) :: putH hd t e := by
        unfold putH
        by_cases hh : (hd.any fun kv => decide (kv.1 = t)) = true
        · rw [if_pos (by simp [hh]), if_pos hh]
          simp [h]
        · rw [if_neg (by simpa [h] using hh), if_neg hh]
          rfl
      rw [e2, List.filter_cons_of_pos (by simp [h]), List.cons_append]
      exact (ih nd.2).cons _
theorem putS_sort {hd : Held} (nd : (hd.map (·.1)).Nodup) (t : Str) (e : Ent) (nd2 : ((putH hd t e).map (·.1)).Nodup) : putS (sortH hd) t e = sortH (putH hd t e) := by
  unfold putS
  refine (sort_perm ((putH_perm nd t e).trans ?_) nd2).symm
  exact ((List.mergeSort_perm hd _).symm.filter _).append_right _
theorem strange_congr {hd hd' : Held} (h : ∀ t, look hd t = look hd' t) (w : Wish) : strange hd w = strange hd' w := by
  unfold strange
  simp only [h]
theorem strange_sort {hd : Held} (nd : (hd.map (·.1)).Nodup) (w : Wish) : strange (sortH hd) w = strange hd w := strange_congr (look_sort nd) w
theorem sort_len (hd : Held) : (sortH hd).length = hd.length := List.length_mergeSort _
theorem sort_nodup {hd : Held} (nd : (hd.map (·.1)).Nodup) : ((sortH hd).map (·.1)).Nodup := (((List.mergeSort_perm hd _).map (·.1)).nodup_iff).mpr nd
/-- the book's snap of a law's snap -/
def snapB (c : Snap) : Snap := ⟨sortH c.held, c.hopes⟩
end Spf
end
section
set_option maxHeartbeats 4000000
/-! Names in order; what is shown. -/
namespace Spf
open PySem PySem.Spec PyProof.Rows L2 L2H HotX LamX
theorem ltCps_iff : ∀ a b : List Nat, ltCps a b = true ↔ a < b
  | [], [] => by simp [ltCps]
  | [], _ :: _ => by simp [ltCps]
  | _ :: _, [] => by simp [ltCps]
  | a :: r, b :: t => by simp [ltCps, List.cons_lt_cons_iff, ltCps_iff r t]
theorem nameLe_trans {a b c : Str} (h1 : nameLe a b = true) (h2 : nameLe b c = true) : nameLe a c = true := by
  unfold nameLe at *
  exact decide_eq_true (List.le_trans (of_decide_eq_true h1) (of_decide_eq_true h2))
theorem nameLe_anti {a b : Str} (h1 : nameLe a b = true) (h2 : nameLe b a = true) : a = b := by
  unfold nameLe at h1 h2
  have e1 : a.cps.toList = b.cps.toList := List.le_antisymm (of_decide_eq_true h1) (of_decide_eq_true h2)
  have e3 := Array.toList_inj.mp e1
  obtain ⟨⟨x⟩⟩ := a
  obtain ⟨⟨y⟩⟩ := b
  cases e3
  rfl
theorem rising_pw : ∀ {p : Str} {ys : List Str}, risingS p ys = true → (p :: ys).Pairwise fun a b => nameLe a b = true
  | p, [], _ => by simp
  | p, y :: ys, h => by
    have h0 : (!ltCps y.cps.toList p.cps.toList && risingS y ys) = true := h
    obtain ⟨h1, h2⟩ := Bool.and_eq_true_iff.mp h0
    have ih := rising_pw h2
    have hpy : nameLe p y = true := by
      unfold nameLe
      refine decide_eq_true ?_
      show ¬ y.cps.toList < p.cps.toList
      intro z
      rw [(ltCps_iff _ _).mpr z] at h1
      cases h1
    refine List.pairwise_cons.mpr ⟨fun z hz => ?_, ih⟩
    rcases List.mem_cons.mp hz with e | hz
    · exact e ▸ hpy
    · exact nameLe_trans hpy ((List.pairwise_cons.mp ih).1 z hz)
theorem names_sorted {hd : Held} {ys : List Str} (p : ys.Perm (hd.map (·.1))) (s : sortedS ys = true) : ys = (sortH hd).map (·.1) := by
  have s1 : ys.Pairwise fun a b => nameLe a b = true := by
    cases ys with
    | nil => exact .nil
    | cons y ys => exact rising_pw s
  have tot : ∀ a b : Str × Ent, (nameLe a.1 b.1 || nameLe b.1 a.1) = true := fun a b => by
    unfold nameLe
    rcases List.le_total a.1.cps.toList b.1.cps.toList with h | h
    · rw [decide_eq_true h]; rfl
    · rw [decide_eq_true h, Bool.or_true]
  have s2 : (sortH hd).Pairwise fun a b => nameLe a.1 b.1 = true := List.pairwise_mergeSort (le := fun a b : Str × Ent => nameLe a.1 b.1) (fun a b c h1 h2 => nameLe_trans h1 h2) tot hd
  have s3 : ((sortH hd).map (·.1)).Pairwise fun a b => nameLe a b = true := List.pairwise_map.mpr s2
  exact (p.trans ((List.mergeSort_perm hd _).symm.map _)).eq_of_pairwise (fun a b _ _ h1 h2 => nameLe_anti h1 h2) s1 s3
/-! ### texts of data -/
def wishD : Wish → PyData
  | .still t => .tuple [.str "still", .str t]
  | .steps t k => .tuple [.str "steps", .str t, .int k]
  | .ring t k => .tuple [.str "ring", .str t, .int k]
  | .alike t u => .tuple [.str "alike", .str t, .str u]
  | .ends t u => .tuple [.str "ends", .str t, .str u]
def fitsD (names : List Str) (hopes : List Wish) (n m : Nat) : PyData := .list [.tuple (names.map .str), .tuple (hopes.map wishD), .int n, .int m, .bool true]
theorem textFrom_le : ∀ (ts : List Str) (k : Nat) (acc : Str), (textFrom k acc ts).length ≤ acc.length + piled ts
  | [], k, acc => Nat.le_add_right _ _
  | t :: r, k, acc => by
    have h := textFrom_le r (k + 1) (acc ++ (if k > 0 then ", " else "" : String) ++ t)
    have e : (acc ++ (if k > 0 then ", " else "" : String) ++ t).length = acc.length + (if k > 0 then 2 else 0) + t.length := by
      rw [strLen_append, strLen_append]
      split <;> rfl
    rw [e] at h
    show (textFrom (k + 1) _ r).length ≤ _
    refine Nat.le_trans h ?_
    rw [piled_cons]
    split <;> omega
theorem listText_le (ts : List Str) : (listText ts).length ≤ 2 + piled ts := by
  have h := textFrom_le ts 0 "["
  have e : (listText ts).length = (textFrom 0 "[" ts).length + 1 := by
    show (textFrom 0 "[" ts ++ "]").length = _
    rw [strLen_append]
    rfl
  have e1 : (("[" : String) : Str).length = 1 := rfl
  rw [e1] at h
  omega
theorem tupleText_le (ts : List Str) : (tupleText ts).length ≤ 3 + piled ts := by
  have e : (tupleText ts).length = 1 + (Str.join ", " ts).length + (if ts.length == 1 then 2 else 1) := by
    unfold tupleText
    rw [strLen_append, strLen_append]
    split <;> rfl
  cases ts with
  | nil => rw [e]; show 1 + 0 + 1 ≤ _; omega
  | cons t r =>
    have h := join_length_add (t :: r) (by simp)
    rw [e]
    split <;> omega
theorem piled_map_le {α : Type} {f : α → Str} {c : Nat} : ∀ {xs : List α}, (∀ x ∈ xs, (f x).length ≤ c) → piled (xs.map f) ≤ xs.length * (c + 2)
  | [], _ => by simp [piled]
  | x :: xs, h => by
    have ih := piled_map_le (f := f) (c := c) (xs := xs) fun y hy => h y (List.mem_cons_of_mem _ hy)
    have h1 := h x List.mem_cons_self
    rw [List.map_cons, piled_cons, List.length_cons, Nat.succ_mul]
    omega
theorem shownAll_map {α : Type} (g : α → PyData) : ∀ xs : List α, PyData.shownAll (xs.map g) = xs.map fun x => (g x).shown
  | [] => by simp only [List.map_nil, PyData.shownAll]
  | x :: xs => by simp only [List.map_cons, PyData.shownAll, shownAll_map g xs]
theorem showableAll_map {α : Type} {g : α → PyData} : ∀ {xs : List α}, (∀ x ∈ xs, (g x).showable = true) → PyData.showableAll (xs.map g) = true
  | [], _ => by simp only [List.map_nil, PyData.showableAll]
  | x :: xs, h => by simp only [List.map_cons, PyData.showableAll, h x List.mem_cons_self, showableAll_map fun y hy => h y (List.mem_cons_of_mem _ hy), Bool.and_self]
theorem noDictAll_map {α : Type} {g : α → PyData} : ∀ {xs : List α}, (∀ x ∈ xs, (g x).hasDict = false) → PyData.hasDictAll (xs.map g) = false
  | [], _ => by simp only [List.map_nil, PyData.hasDictAll]
  | x :: xs, h => by simp only [List.map_cons, PyData.hasDictAll, h x List.mem_cons_self, noDictAll_map fun y hy => h y (List.mem_cons_of_mem _ hy), Bool.or_self]
theorem depthAll_map {α : Type} {g : α → PyData} {c : Nat} : ∀ {xs : List α}, (∀ x ∈ xs, (g x).depth ≤ c) → PyData.depthAll (xs.map g) ≤ c
  | [], _ => by simp only [List.map_nil, PyData.depthAll]; omega
  | x :: xs, h => by
    have h1 := h x List.mem_cons_self
    have h2 := depthAll_map (g := g) (c := c) (xs := xs) fun y hy => h y (List.mem_cons_of_mem _ hy)
    simp only [List.map_cons, PyData.depthAll]
    omega
theorem int_shown {i : Int} (h0 : -2000000 ≤ i) (h : i ≤ 2000000) : (PyData.int i).shown.length ≤ 8 ∧ (PyData.int i).showable = true := by
  constructor
  · have := int_text_length_le10 (a := i) (k := 7) (by decide) (by omega)
    show (Str.ofString (toString i)).length ≤ 8
    rw [PySem.ofString_length]
    exact this
  · simp only [PyData.showable]
    refine decide_eq_true ?_
    by_cases z : i.natAbs = 0
    · rw [z]; decide
    · have : i.natAbs < 2 ^ 21 := by omega
      have := (Nat.log2_lt z).mpr this
      omega
def tagN (t : Str) : Prop := t ∈ nms ∨ t = "none"
theorem tag_len {t : Str} (h : tagN t) : (reprText t).length ≤ 10 := by
  rcases h with h | h
  · simp only [nms, List.mem_cons, List.not_mem_nil, or_false] at h
    rcases h with rfl | rfl | rfl <;> decide +kernel
  · subst h; decide +kernel
theorem wish_shown {w : Wish} (ht : ∀ t ∈ w.tags, tagN t) (hs : w.sane) : (wishD w).shown.length ≤ 60 ∧ (wishD w).showable = true ∧ (wishD w).hasDict = false ∧ (wishD w).depth ≤ 1 := by
  have k1 : (reprText "still").length = 7 := by decide +kernel
  have k2 : (reprText "steps").length = 7 := by decide +kernel
  have k3 : (reprText "ring").length = 6 := by decide +kernel
  have k4 : (reprText "alike").length = 7 := by decide +kernel
  have k5 : (reprText "ends").length = 6 := by decide +kernel
  cases w with
  | still t =>
    have h1 := tag_len (ht t (by simp [Wish.tags]))
    refine ⟨?_, ?_, ?_, ?_⟩
    · have := tupleText_le [reprText "still", reprText t]
      simp only [wishD, PyData.shown, PyData.shownAll]
      simp only [piled_cons] at this
      simp only [piled, List.map_nil, List.sum_nil] at this
      omega
    · simp [wishD, PyData.showable, PyData.showableAll]
    · simp [wishD, PyData.hasDict, PyData.hasDictAll]
    · simp [wishD, PyData.depth, PyData.depthAll]
  | steps t k =>
    have h1 := tag_len (ht t (by simp [Wish.tags]))
    obtain ⟨i1, i2⟩ := int_shown (i := k) (by have := hs.1; omega) hs.2
    refine ⟨?_, ?_, ?_, ?_⟩
    · have := tupleText_le [reprText "steps", reprText t, (PyData.int k).shown]
      simp only [wishD, PyData.shown, PyData.shownAll]
      simp only [piled_cons] at this
      simp only [piled, List.map_nil, List.sum_nil] at this
      simp only [PyData.shown] at this i1
      omega
    · simp [wishD, PyData.showable, PyData.showableAll]
      simpa [PyData.showable] using i2
    · simp [wishD, PyData.hasDict, PyData.hasDictAll]
    · simp [wishD, PyData.depth, PyData.depthAll]
  | ring t k =>
    have h1 := tag_len (ht t (by simp [Wish.tags]))
    obtain ⟨i1, i2⟩ := int_shown (i := k) (by have := hs.1; omega) hs.2
    refine ⟨?_, ?_, ?_, ?_⟩
    · have := tupleText_le [reprText "ring", reprText t, (PyData.int k).shown]
      simp only [wishD, PyData.shown, PyData.shownAll]
      simp only [piled_cons] at this
      simp only [piled, List.map_nil, List.sum_nil] at this
      simp only [PyData.shown] at this i1
      omega
    · simp [wishD, PyData.showable, PyData.showableAll]
      simpa [PyData.showable] using i2
    · simp [wishD, PyData.hasDict, PyData.hasDictAll]
    · simp [wishD, PyData.depth, PyData.depthAll]
  | alike t u =>
    have h1 := tag_len (ht t (by simp [Wish.tags]))
    have h2 := tag_len (ht u (by simp [Wish.tags]))
    refine ⟨?_, ?_, ?_, ?_⟩
    · have := tupleText_le [reprText "alike", reprText t, reprText u]
      simp only [wishD, PyData.shown, PyData.shownAll]
      simp only [piled_cons] at this
      simp only [piled, List.map_nil, List.sum_nil] at this
      omega
    · simp [wishD, PyData.showable, PyData.showableAll]
    · simp [wishD, PyData.hasDict, PyData.hasDictAll]
    · simp [wishD, PyData.depth, PyData.depthAll]
  | ends t u =>
    have h1 := tag_len (ht t (by simp [Wish.tags]))
    have h2 := tag_len (ht u (by simp [Wish.tags]))
    refine ⟨?_, ?_, ?_, ?_⟩
    · have := tupleText_le [reprText "ends", reprText t, reprText u]
      simp only [wishD, PyData.shown, PyData.shownAll]
      simp only [piled_cons] at this
      simp only [piled, List.map_nil, List.sum_nil] at this
      omega
    · simp [wishD, PyData.showable, PyData.showableAll]
    · simp [wishD, PyData.hasDict, PyData.hasDictAll]
    · simp [wishD, PyData.depth, PyData.depthAll]
theorem fits_shows {names : List Str} {hopes : List Wish} {n m : Nat} (h1 : ∀ t ∈ names, tagN t) (hl : names.length ≤ 100) (h2 : ∀ w ∈ hopes, (∀ t ∈ w.tags, tagN t) ∧ w.sane) (h3 : hopes.length ≤ 100) (hn : n ≤ 2000) (hm : m ≤ 2000) : Shows (fitsD names hopes n m) := by
  obtain ⟨n1, n2⟩ := int_shown (i := n) (by omega) (by omega)
  obtain ⟨m1, m2⟩ := int_shown (i := m) (by omega) (by omega)
  refine ⟨?_, ?_, ?_, ?_⟩
  · simp only [fitsD, PyData.showable, PyData.showableAll]
    rw [showableAll_map (fun x _ => by simp [PyData.showable]), showableAll_map (fun w hw => (wish_shown (h2 w hw).1 (h2 w hw).2).2.1)]
    simp only [PyData.showable] at n2 m2
    rw [n2, m2]
    rfl
  · simp only [fitsD, PyData.hasDict, PyData.hasDictAll]
    rw [noDictAll_map (fun x _ => by simp [PyData.hasDict]), noDictAll_map (fun w hw => (wish_shown (h2 w hw).1 (h2 w hw).2).2.2.1)]
    rfl
  · have p1 := piled_map_le (f := fun x => (PyData.str x).shown) (c := 10) (xs := names) fun t ht => by
      simp only [PyData.shown]
      exact tag_len (h1 t ht)
    have p2 := piled_map_le (f := fun w => (wishD w).shown) (c := 60) (xs := hopes) fun w hw => (wish_shown (h2 w hw).1 (h2 w hw).2).1
    have q1 := tupleText_le (names.map fun x => (PyData.str x).shown)
    have q2 := tupleText_le (hopes.map fun w => (wishD w).shown)
    have q3 := listText_le [tupleText (names.map fun x => (PyData.str x).shown), tupleText (hopes.map fun w => (wishD w).shown), (PyData.int n).shown, (PyData.int m).shown, "True"]
    have e : (fitsD names hopes n m).shown = listText [tupleText (names.map fun x => (PyData.str x).shown), tupleText (hopes.map fun w => (wishD w).shown), (PyData.int n).shown, (PyData.int m).shown, "True"] := by
      simp only [fitsD, PyData.shown, PyData.shownAll, shownAll_map]
      rfl
    rw [e, sizeLine_eq]
    simp only [piled_cons] at q3
    simp only [piled, List.map_nil, List.sum_nil] at q3
    have et : (("True" : String) : Str).length = 4 := rfl
    rw [et] at q3
    have b1 : names.length * (10 + 2) ≤ 1200 := by omega
    have b2 : hopes.length * (60 + 2) ≤ 6200 := by omega
    unfold piled at p1 p2 q1 q2
    omega
  · simp only [fitsD, PyData.depth, PyData.depthAll]
    have d1 := depthAll_map (g := PyData.str) (c := 0) (xs := names) fun x _ => by simp [PyData.depth]
    have d2 := depthAll_map (g := wishD) (c := 1) (xs := hopes) fun w hw => (wish_shown (h2 w hw).1 (h2 w hw).2).2.2.2
    omega
/-! ### what is told -/
def toldD : Told → PyData
  | .told => .list [.str "told", .none]
  | .nothing => .list [.str "NothingToUndo", .none]
  | .broken k => .list [.str "Broken", .int k]
  | .unknown t => .list [.str "UnknownName", .str t]
  | .badIndex i => .list [.str "InvalidIndex", .int i]
def ToldOk : Told → Prop
  | .broken k => k ≤ 1000
  | .unknown t => tagN t
  | .badIndex i => -1000 ≤ i ∧ i ≤ 1000
  | _ => True
theorem told_shows {r : Told} (h : ToldOk r) : Shows (toldD r) := by
  have k1 : (reprText "told").length = 6 := by decide +kernel
  have k2 : (reprText "NothingToUndo").length = 15 := by decide +kernel
  have k3 : (reprText "Broken").length = 8 := by decide +kernel
  have k4 : (reprText "UnknownName").length = 13 := by decide +kernel
  have k5 : (reprText "InvalidIndex").length = 14 := by decide +kernel
  have kn : (("None" : String) : Str).length = 4 := rfl
  have fin : ∀ (a b : Str), a.length ≤ 20 → b.length ≤ 20 → (listText [a, b]).length ≤ sizeLine := fun a b ha hb => by
    have := listText_le [a, b]
    simp only [piled_cons] at this
    simp only [piled, List.map_nil, List.sum_nil] at this
    rw [sizeLine_eq]
    omega
  cases r with
  | told => exact ⟨by simp [toldD, PyData.showable, PyData.showableAll], by simp [toldD, PyData.hasDict, PyData.hasDictAll], by simp only [toldD, PyData.shown, PyData.shownAll]; exact fin _ _ (by omega) (by omega), by simp [toldD, PyData.depth, PyData.depthAll]⟩
  | nothing => exact ⟨by simp [toldD, PyData.showable, PyData.showableAll], by simp [toldD, PyData.hasDict, PyData.hasDictAll], by simp only [toldD, PyData.shown, PyData.shownAll]; exact fin _ _ (by omega) (by omega), by simp [toldD, PyData.depth, PyData.depthAll]⟩
  | broken k =>
    have hk : k ≤ 1000 := h
    obtain ⟨n1, n2⟩ := int_shown (i := (k : Int)) (by omega) (by omega)
    refine ⟨?_, by simp [toldD, PyData.hasDict, PyData.hasDictAll], ?_, by simp [toldD, PyData.depth, PyData.depthAll]⟩
    · simp only [toldD, PyData.showable, PyData.showableAll]
      simp only [PyData.showable] at n2
      rw [n2]; rfl
    · simp only [toldD, PyData.shown, PyData.shownAll]
      simp only [PyData.shown] at n1
      exact fin _ _ (by omega) (by omega)
  | unknown t =>
    have ht := tag_len (t := t) h
    exact ⟨by simp [toldD, PyData.showable, PyData.showableAll], by simp [toldD, PyData.hasDict, PyData.hasDictAll], by simp only [toldD, PyData.shown, PyData.shownAll]; exact fin _ _ (by omega) (by omega), by simp [toldD, PyData.depth, PyData.depthAll]⟩
  | badIndex i =>
    have hk : -1000 ≤ i ∧ i ≤ 1000 := h
    obtain ⟨n1, n2⟩ := int_shown (i := i) (by omega) (by omega)
    refine ⟨?_, by simp [toldD, PyData.hasDict, PyData.hasDictAll], ?_, by simp [toldD, PyData.depth, PyData.depthAll]⟩
    · simp only [toldD, PyData.showable, PyData.showableAll]
      simp only [PyData.showable] at n2
      rw [n2]; rfl
    · simp only [toldD, PyData.shown, PyData.shownAll]
      simp only [PyData.shown] at n1
      exact fin _ _ (by omega) (by omega)
theorem dp_wish {K : PySem.W.Frag} {H : Hp} {a : Addr} {w : Wish} (h : SqT K H a (wishV w)) : Dp K H (.ref a) (wishD w) := by
  cases w <;> exact .tup h (by repeat' constructor)
theorem dp_wishes {K : PySem.W.Frag} {G H : Hp} (s : Same G H) : ∀ {ps : List Addr} {ws : List Wish}, Paired (IsWish G) ps ws → DpAll K H (ps.map V.ref) (ws.map wishD)
  | [], [], _ => .nil
  | p :: ps, w :: ws, .cons h r => .cons (dp_wish (SqT.of (s _ _ h.1))) (dp_wishes s r)
theorem dp_told {K : PySem.W.Frag} {H : Hp} {a : Addr} {r : Told} (h : SqL K H a (toldV r)) : Dp K H (.ref a) (toldD r) := by
  cases r <;> exact .lst h (by repeat' constructor)
end Spf
end
section
set_option maxHeartbeats 4000000
/-! Does the book fit the law's state. -/
namespace Spf
open PySem PySem.Spec PyProof.Rows L2 L2H HotX LamX
/-- all but dicts is kept -/
def Drop (G G' : Hp) : Prop := ∀ a o, (∀ kvs, o ≠ .dK kvs) → G a = some o → G' a = some o
theorem IsVal.drop {C : Addr} {G G' : Hp} {v : Addr} {e : Ent} (s : Drop G G') : IsVal C G v e → IsVal C G' v e := fun ⟨f, h1, ⟨dx, h2⟩, h3⟩ => ⟨f, s _ _ (fun _ z => by cases z) h1, ⟨dx, s _ _ (fun _ z => by cases z) h2⟩, h3⟩
theorem IsRow.drop {C : Addr} {G G' : Hp} {p : Addr} {te : Str × Ent} (s : Drop G G') : IsRow C G p te → IsRow C G' p te := fun ⟨v, h1, h2⟩ => ⟨v, s _ _ (fun _ z => by cases z) h1, h2.drop s⟩
theorem IsEntT.drop {C : Addr} {G G' : Hp} {e : Addr} {hd : Held} (s : Drop G G') : IsEntT C G e hd → IsEntT C G' e hd
  | .inl ⟨h1, h2⟩ => .inl ⟨h1, s _ _ (fun _ z => by cases z) h2⟩
  | .inr ⟨o, ps, h1, h2, h3⟩ => .inr ⟨o, ps, s _ _ (fun _ z => by cases z) h1, h2, h3.mono fun _ _ h => h.drop s⟩
theorem IsWishT.drop {G G' : Hp} {w : Addr} {ws : List Wish} (s : Drop G G') : IsWishT G w ws → IsWishT G' w ws := fun ⟨qs, h1, h2⟩ => ⟨qs, s _ _ (fun _ z => by cases z) h1, h2.mono fun _ _ h => ⟨s _ _ (fun _ z => by cases z) h.1, h.2⟩⟩
theorem IsSnap.drop {C : Addr} {G G' : Hp} {p : Addr} {c : Snap} (s : Drop G G') : IsSnap C G p c → IsSnap C G' p c := fun ⟨e, w, h1, h2, h3⟩ => ⟨e, w, s _ _ (fun _ z => by cases z) h1, h2.drop s, h3.drop s⟩
theorem IsStates.drop {C : Addr} {G G' : Hp} {t : Addr} {bs : List Snap} (s : Drop G G') : IsStates C G t bs → IsStates C G' t bs := fun ⟨ss, h1, h2⟩ => ⟨ss, s _ _ (fun _ z => by cases z) h1, h2.mono fun _ _ h => h.drop s⟩
/-- what is known of each state -/
structure SnapOk (c : Snap) : Prop where
  keys : ∀ kv ∈ c.held, kv.1 ∈ nms
  nd : (c.held.map (·.1)).Nodup
  hopes : c.hopes.length ≤ 5
  named : ∀ w ∈ c.hopes, Named c.held w
theorem look_mem2 {hd : Held} {t : Str} (h : (look hd t).isSome = true) : ∃ e, (t, e) ∈ hd := by
  unfold look at h
  cases e : hd.find? fun kv => decide (kv.1 = t) with
  | none => rw [e] at h; cases h
  | some kv =>
    have h1 := List.find?_some e
    have h2 := List.mem_of_find?_eq_some e
    have h3 : kv.1 = t := of_decide_eq_true h1
    exact ⟨kv.2, by rw [← h3]; exact h2⟩
theorem SnapOk.tags {c : Snap} (k : SnapOk c) {w : Wish} (hw : w ∈ c.hopes) : ∀ t ∈ w.tags, tagN t := fun t ht => by
  obtain ⟨e, he⟩ := look_mem2 (k.named w hw t ht)
  exact .inl (k.keys _ he)
theorem SnapOk.few {c : Snap} (k : SnapOk c) : c.held.length ≤ 3 := by
  have := List.Nodup.length_le_of_subset k.nd (l₂ := nms) fun t ht => by
    obtain ⟨kv, h, e⟩ := List.mem_map.mp ht
    exact e ▸ k.keys kv h
  simpa [nms] using this
theorem paired_mem {α β : Type} {F : α → β → Prop} : ∀ {xs : List α} {ys : List β}, Paired F xs ys → ∀ y ∈ ys, ∃ x ∈ xs, F x y
  | _, _, .nil, _, h => by cases h
  | x :: _, y :: _, .cons h r, z, hz => by
    rcases List.mem_cons.mp hz with e | hz
    · exact ⟨x, List.mem_cons_self, e ▸ h⟩
    · obtain ⟨x', h1, h2⟩ := paired_mem r z hz
      exact ⟨x', List.mem_cons_of_mem _ h1, h2⟩
theorem paired_at {α β : Type} {F : α → β → Prop} : ∀ {xs : List α} {ys : List β} {i : Nat} {x : α}, Paired F xs ys → xs[i]? = some x → ∃ y, ys[i]? = some y ∧ F x y
  | _, _, i, _, .nil, h => by simp at h
  | x :: _, y :: _, 0, z, .cons h r, e => ⟨y, rfl, by simp at e; exact e ▸ h⟩
  | x :: _, y :: _, i + 1, z, .cons h r, e => by
    obtain ⟨y', h1, h2⟩ := paired_at (i := i) r (by simpa using e)
    exact ⟨y', by simpa using h1, h2⟩
section
variable {P : Program} {w : World} {K : PySem.W.Frag} {mg : Str → Option Value} {base : Heap} {h : Bool}
abbrev vLFits : List Str := ["_law_shelf", "_law_state", "_law_held", "_law_hopes", "_law_past", "_law_told_here", "_law_tag", "_law_pair"]
abbrev pLFits : List Str := ["_law_shelf", "_law_state"]
theorem scLFits : FnScope vLFits pLFits (defScope (top 77)) := ⟨rfl, rfl, rfl, by decide +kernel, rfl, by decide +kernel, by decide +kernel⟩
def spFits (CB C : Addr) : Sp := fun vs H Q _ => ∃ (G : Hp) (b a : Addr) (cs : List Snap), vs = [.ref b, .ref a] ∧ Same G H ∧ IsBook CB C H G b (cs.map snapB) ∧ IsSt G a cs ∧ cs.length ≤ 1000 ∧ (∀ c ∈ cs, SnapOk c) ∧ ∀ H', Same H H' → Q (.bl true) H'
theorem okLFits (T : TxtA K mg) : FnX P w K mg base CX0 true h 9 T.l_fits.f T.l_fits.fd pLFits (spFits T.Book.C T.Field.C) := by
  refine funX0 (k := 8) T.l_fits.F scLFits (fun vs H Q E ⟨G, b, a, cs, e, _⟩ => e ▸ rfl) fun cdv A outer s H vs Q E p c ⟨G, b, a, cs, e, sg, ib, is, hlen, hok, q⟩ => ?_
  subst e
  have hg : (true : Bool) = true := rfl
  refine ⟨_, pss_cons (ps_asg (pv 1) (pg_unlX c.md (pgs_cons (pg_name (i := 2) scLFits.nd rfl (Or.inl rfl)) (pgs_cons (pg_name (i := 3) scLFits.nd rfl (Or.inl rfl)) (pgs_cons (pg_name (i := 4) scLFits.nd rfl (Or.inl rfl)) pgs_nil)))))
      (pss_cons (ps_set (i := 5) scLFits.nd rfl (Or.inl rfl) (pe_lst (pa_cons (pe_propX (E := fun _ => E0) (pv 0) T.Book.cl T.bNames.p (okBookNames T) (c.mono (by decide)) nogd T.bNames.b rfl) (pa_cons (pe_propX (E := fun _ => E0) (pv 0) T.Book.cl T.bWishes.p (okBookWishes T) (c.mono (by decide)) nogd T.bWishes.b rfl) (pa_cons (pe_propX (E := fun _ => E0) (pv 0) T.Book.cl T.bChanges.p (okBookChanges T) (c.mono (by decide)) nogd T.bChanges.b rfl) (pa_cons (pe_callB (call_lenO (sm_of T.bLen) (okBookLen T) (c.mono (by decide)) nogd T.bLen.b) (by rfl) T.len PySem.boot_len (pa_cons (pv 0) pa_nil)) (pa_cons (pe_callTy (call_boolO (sm_of T.bBool) (okBookBool T) (c.mono (by decide)) nogd T.bBool.b) (by rfl) T.bool (by decide +kernel) (pa_cons (pv 0) pa_nil)) pa_nil)))))))
      (pss_cons (ps_if (pt_cmpR op_ne (pe_callB (call_reprD c hg) (by rfl) T.repr (by decide +kernel) (pa_cons (pv 5) pa_nil)) (pe_callB (call_reprD c hg) (by rfl) T.repr (by decide +kernel) (pa_cons (pe_lst (pa_cons (pe_callTy call_tuple_of (by rfl) T.tuple (by decide +kernel) (pa_cons (pe_callB (call_sortedDX c.md) (by rfl) T.sorted (by decide +kernel) (pa_cons (pv 2) pa_nil)) pa_nil)) (pa_cons (pe_callTy call_tuple_of (by rfl) T.tuple (by decide +kernel) (pa_cons (pv 3) pa_nil)) (pa_cons (pe_callB call_len_seq (by rfl) T.len PySem.boot_len (pa_cons (pv 4) pa_nil)) (pa_cons (pe_callB call_lenD (by rfl) T.len PySem.boot_len (pa_cons (pv 2) pa_nil)) (pa_cons pe_bl pa_nil)))))) pa_nil)) (nomark _)) (pss_one (ps_ret pe_bl)) pss_nil)
      (pss_cons (ps_lock (ps_forX PassesOwn.never c.md (pi_keysX (pv 2)) (pg_name (i := 6) scLFits.nd rfl (Or.inl rfl)) (pss_cons (ps_set (i := 7) scLFits.nd rfl (Or.inl rfl) (pe_getO (sm_of T.bGet) (okBookGetitem T) (c.mono (by decide)) nogd T.bGet.b (pv 0) (pv 6) (fun _ _ => rfl)))
      (pss_cons (ps_if (PW.pt (pw_or (pt_not (pt_val (pe_callB call_isi (by rfl) T.isinstance (by decide +kernel) (pa_cons (pv 7) (pa_cons (pe_tyB "tuple" (by rfl) T.tuple (by decide +kernel)) pa_nil))))) (pw_or (pt_cmpR op_ne (pe_callB call_len_seq (by rfl) T.len PySem.boot_len (pa_cons (pv 7) pa_nil)) pe_int (nomark _)) (pw_or1 (pt_cmpR (op_neO ⟨T.fEq.mt.at_, T.fEq.mt.fn, T.fEq.fin⟩ T.fNe T.fIns.hm (okFieldEq T) (c.mono (by decide)) nogd T.fEq.b) (pe_ix ix_tup (pv 7) pe_int (fun _ _ => rfl)) (pe_makeX T.fInit.mk1 (okFieldInit T) (c.mono (by decide)) nogd rfl T.Field.mg T.fInit.b (pa_cons (pe_ix ix_list (pe_dget c.u1 (pv 2) (pv 6) (fun _ _ => rfl)) pe_int (fun _ _ => rfl)) (pa_cons (pe_ix ix_list (pe_dget c.u1 (pv 2) (pv 6) (fun _ _ => rfl)) pe_int (fun _ _ => rfl)) pa_nil))) (nomark _)))))) (pss_one (ps_ret pe_bl)) pss_nil)
      (pss_one (ps_if (PW.pt (pw_or (pt_cmpR op_ne (pe_ix ix_tup (pv 7) pe_int (fun _ _ => rfl)) (pe_ix ix_list (pe_dget c.u1 (pv 2) (pv 6) (fun _ _ => rfl)) pe_int (fun _ _ => rfl)) (nomark _)) (pw_or1 (pt_cmpR (op_notInO (sm_of T.bHas) (okBookContains T) (c.mono (by decide)) nogd T.bHas.b) (pv 6) (pv 0) (by rfl))))) (pss_one (ps_ret pe_bl)) pss_nil))))))
      (pss_one (ps_ret pe_bl))))), ?_⟩
  cases cs with
  | nil => exact is.elim
  | cons cc rest =>
  obtain ⟨h1, o1, o2, ps, a1, ih, ⟨qs, io, pr⟩, nm, a4, hl, last⟩ := is
  obtain ⟨kvs, ih1, ih2, ih3⟩ := ih
  obtain ⟨dx, t, hb, ist⟩ := ib
  have ok1 := hok cc List.mem_cons_self
  have hl1 : rest.length ≤ 1000 := by rw [List.length_cons] at hlen; omega
  have few := ok1.few
  have bk : ∀ {H' G' : Hp}, Same H H' → Same G G' → IsBook T.Book.C T.Field.C H' G' b (snapB cc :: rest.map snapB) := fun s1 s2 => ⟨dx, t, s1 _ _ hb, ist.mono s2⟩
  have slen : (snapB cc).held.length = cc.held.length := sort_len _
  refine ⟨_, rfl, a, _, rfl, SqL.of (sg _ _ a1), rfl, _, _, rfl, _, _, rfl, _, _, rfl, rfl, ?_⟩
  refine ⟨.ref b, rfl, b, dx, _, rfl, hb, G, b, snapB cc, rest.map snapB, rfl, sg, bk (Same.refl _) (Same.refl _), by rw [slen]; omega, fun l1 H1 s1 hl1' hl10 => ?_⟩
  have g1 := sg.trans s1
  refine ⟨.ref b, rfl, b, dx, _, rfl, s1 _ _ hb, G, b, snapB cc, rest.map snapB, rfl, g1, bk s1 (Same.refl _), fun w1 ⟨qs1, hw1, pw1⟩ => ?_⟩
  refine ⟨.ref b, rfl, b, dx, _, rfl, s1 _ _ hb, G, b, snapB cc :: rest.map snapB, rfl, g1, bk s1 (Same.refl _), ?_⟩
  refine ⟨.ref b, rfl, b, dx, _, rfl, s1 _ _ hb, G, b, snapB cc, rest.map snapB, rfl, g1, bk s1 (Same.refl _), _, rfl, by rw [slen]; omega, ?_⟩
  refine ⟨.ref b, rfl, b, dx, _, rfl, s1 _ _ hb, b, rfl, true, rfl, ?_⟩
  refine ⟨szL (by show 5 ≤ 1000000; decide), fun l2 hl2 => ?_⟩
  have s2 := s1.new (o := .lst [.ref l1, .ref w1, .int (((snapB cc :: rest.map snapB).length : Int) - 1), .int ((snapB cc).held.length : Nat), .bl true]) hl2
  have c2 := upd_same (H := H1) (a := l2) (o := .lst [.ref l1, .ref w1, .int (((snapB cc :: rest.map snapB).length : Int) - 1), .int ((snapB cc).held.length : Nat), .bl true])
  have d2 : upd H1 l2 (.lst [.ref l1, .ref w1, .int (((snapB cc :: rest.map snapB).length : Int) - 1), .int ((snapB cc).held.length : Nat), .bl true]) l1 = some (.tup (((snapB cc).held.map (·.1)).map V.str)) := by rw [upd_ne (ne_of_none hl1' hl2)]; exact hl1'
  generalize upd H1 l2 (.lst [.ref l1, .ref w1, .int (((snapB cc :: rest.map snapB).length : Int) - 1), .int ((snapB cc).held.length : Nat), .bl true]) = H2 at s2 c2 d2 ⊢
  have g2 := sg.trans s2
  have e1 : (((snapB cc :: rest.map snapB).length : Int) - 1) = ((rest.length : Nat) : Int) := by simp
  rw [e1, slen] at c2
  have shows : Shows (fitsD ((sortH cc.held).map (·.1)) cc.hopes rest.length cc.held.length) := fits_shows (fun t ht => by
    obtain ⟨kv, hk, e⟩ := List.mem_map.mp ht
    exact .inl (e ▸ ok1.keys kv ((List.mergeSort_perm _ _).mem_iff.mp hk))) (by rw [List.length_map, sort_len]; omega) (fun w hw => ⟨ok1.tags hw, by
    obtain ⟨x, _, h⟩ := paired_mem pr w hw
    exact h.2⟩) (by have := ok1.hopes; omega) (by omega) (by omega)
  refine ⟨.ref l2, rfl, l2, fitsD ((sortH cc.held).map (·.1)) cc.hopes rest.length cc.held.length, rfl, .lst (SqL.of c2) (.cons (.tup (SqT.of d2) (dp_strs _)) (.cons (.tup (SqT.of (g2 _ _ hw1)) (dp_wishes g2 pw1)) (.cons (.int _) (.cons (.int _) (.cons (.bl _) .nil))))), shows, ?_⟩
  refine ⟨.ref h1, rfl, h1, kvs, cc.held.map (·.1), rfl, .inl (g2 _ _ ih1), by rw [paired_keys ih2], by rw [List.length_map]; omega, fun ys p3 pm srt hp3 => ?_⟩
  obtain rfl := names_sorted pm srt
  have s3 := s2.new (o := .lst (((sortH cc.held).map (·.1)).map V.str)) hp3
  refine ⟨p3, _, rfl, .inl ⟨SqL.of upd_same, fun p4 hp4 => ?_⟩⟩
  have s4 := s3.new (o := .tup (((sortH cc.held).map (·.1)).map V.str)) hp4
  have c4 := upd_same (H := upd H2 p3 (.lst (((sortH cc.held).map (·.1)).map V.str))) (a := p4) (o := .tup (((sortH cc.held).map (·.1)).map V.str))
  generalize upd (upd H2 p3 (.lst (((sortH cc.held).map (·.1)).map V.str))) p4 (.tup (((sortH cc.held).map (·.1)).map V.str)) = H4 at s4 c4 ⊢
  have g4 := sg.trans s4
  refine ⟨.ref o1, rfl, o1, _, rfl, .inl ⟨SqL.of (g4 _ _ io), fun p5 hp5 => ?_⟩⟩
  have s5 := s4.new (o := .tup (qs.map V.ref)) hp5
  have n45 : p4 ≠ p5 := ne_of_none c4 hp5
  have c5 := upd_same (H := H4) (a := p5) (o := .tup (qs.map V.ref))
  have d5 : upd H4 p5 (.tup (qs.map V.ref)) p4 = some (.tup (((sortH cc.held).map (·.1)).map V.str)) := by rw [upd_ne n45]; exact c4
  generalize upd H4 p5 (.tup (qs.map V.ref)) = H5 at s5 c5 d5 ⊢
  have g5 := sg.trans s5
  refine ⟨.ref o2, rfl, o2, _, rfl, .inl (SqL.of (g5 _ _ a4)), ?_⟩
  refine ⟨.ref h1, rfl, h1, kvs, rfl, g5 _ _ ih1, ?_⟩
  refine ⟨szL (by show 5 ≤ 1000000; decide), fun l6 hl6 => ?_⟩
  have e2 : ((ps.map V.ref).length : Nat) = rest.length := by rw [List.length_map, hl]
  have e3 : kvs.length = cc.held.length := ih2.length
  rw [e2, e3]
  have s6 := s5.new (o := .lst [.ref p4, .ref p5, .int (rest.length : Nat), .int (cc.held.length : Nat), .bl true]) hl6
  have c6 := upd_same (H := H5) (a := l6) (o := .lst [.ref p4, .ref p5, .int (rest.length : Nat), .int (cc.held.length : Nat), .bl true])
  have d6 : upd H5 l6 (.lst [.ref p4, .ref p5, .int (rest.length : Nat), .int (cc.held.length : Nat), .bl true]) p4 = some (.tup (((sortH cc.held).map (·.1)).map V.str)) := by rw [upd_ne (ne_of_none d5 hl6)]; exact d5
  have f6 : upd H5 l6 (.lst [.ref p4, .ref p5, .int (rest.length : Nat), .int (cc.held.length : Nat), .bl true]) p5 = some (.tup (qs.map V.ref)) := by rw [upd_ne (ne_of_none c5 hl6)]; exact c5
  generalize upd H5 l6 (.lst [.ref p4, .ref p5, .int (rest.length : Nat), .int (cc.held.length : Nat), .bl true]) = H6 at s6 c6 d6 f6 ⊢
  have g6 := sg.trans s6
  refine ⟨l6, fitsD ((sortH cc.held).map (·.1)) cc.hopes rest.length cc.held.length, rfl, .lst (SqL.of c6) (.cons (.tup (SqT.of d6) (dp_strs _)) (.cons (.tup (SqT.of f6) (dp_wishes g6 pr)) (.cons (.int _) (.cons (.int _) (.cons (.bl _) .nil))))), shows, ?_⟩
  refine ⟨rfl, _, rfl, ifF (by simp) ?_⟩
  -- the loop
  refine ⟨h1, .dK kvs, g6 _ _ ih1, trivial, fun od => ?_⟩
  let Gd : Hp := fun x => if x = h1 then none else G x
  have hd1 : Drop G Gd := fun x o ho hx => by
    have : x ≠ h1 := fun z => by
      rw [z, ih1] at hx
      cases hx
      exact ho _ rfl
    show (if x = h1 then none else G x) = some o
    rw [if_neg this]; exact hx
  have istd := ist.drop hd1
  have sgd : ∀ {H' : Hp}, Same (upd H6 h1 (.frz od (.dK kvs))) H' → Same Gd H' := fun s7 x o hx => by
    by_cases z : x = h1
    · have : (if x = h1 then none else G x) = some o := hx
      rw [if_pos z] at this; cases this
    · have : (if x = h1 then none else G x) = some o := hx
      rw [if_neg z] at this
      exact s7 _ _ (by rw [upd_ne z]; exact g6 _ _ this)
  have nb : b ≠ h1 := fun z => by
    have e := g6 _ _ ih1
    rw [← z, s6 _ _ hb] at e
    cases e
  have bkd : ∀ {H' : Hp}, Same (upd H6 h1 (.frz od (.dK kvs))) H' → H' b = some (.ins T.Book.C dx [("states", .ref t)]) ∧ IsBook T.Book.C T.Field.C H' Gd b (snapB cc :: rest.map snapB) := fun s7 =>
    have hb7 := s7 _ _ (by rw [upd_ne nb]; exact s6 _ _ hb)
    ⟨hb7, dx, t, hb7, istd⟩
  refine ⟨.ref h1, rfl, h1, od, kvs, rfl, upd_same, for_it walk_keys (fun i σ H' => Same (upd H6 h1 (.frz od (.dK kvs))) H' ∧ ∃ x y, σ = [some (.ref b), some (.ref a), some (.ref h1), some (.ref o1), some (.ref o2), some (.ref l2), x, y]) ⟨Same.refl _, _, _, rfl⟩ (fun i σ H' _ pv => pv.1 _ _ upd_same) ?_ ?_⟩
  · rintro i x σ H0 H7 hi ⟨s7, x0, y0, rfl⟩ ⟨rfl, k, v0, hkv, rfl⟩
    obtain ⟨te, hte, hk, _⟩ := paired_at ih2 hkv
    obtain ⟨t, e⟩ := te
    have hk' : k = Sum.inr t := hk
    subst hk'
    have hmem : (t, e) ∈ cc.held := List.mem_of_getElem? hte
    have hlk : look cc.held t = some e := (look_iff ih3).mpr hmem
    have hlk2 : look (snapB cc).held t = some e := (look_sort ih3 t).trans hlk
    obtain ⟨p, hval, he, eok⟩ : ∃ p, valV kvs (Sum.inr t) = some (.ref p) ∧ IsEnt G p e := by
      rcases look_val (t := t) ih2 with ⟨z, _⟩ | ⟨p, e', z1, z2, z3⟩
      · rw [hlk] at z; cases z
      · rw [hlk] at z1; cases z1; exact ⟨p, z2, z3⟩
    have np : p ≠ h1 := fun z => by rw [z, ih1] at he; cases he
    have dg : ∀ {H' : Hp}, Same H7 H' → DGet H' h1 (.str t) (some (.ref p)) := fun s' => by
      rw [← hval]
      exact .inl ⟨kvs, Sum.inr t, .inr ⟨od, s' _ _ (s7 _ _ upd_same)⟩, rfl, rfl⟩
    have hp : ∀ {H' : Hp}, Same H7 H' → SqL K H' p [.int e.b, .int e.n, .str (wd e.ds)] := fun s' => SqL.of (s' _ _ (s7 _ _ (by rw [upd_ne np]; exact g6 _ _ he)))
    refine ⟨.ref b, rfl, .str t, rfl, b, dx, _, rfl, (bkd s7).1, Gd, b, snapB cc, rest.map snapB, t, e, rfl, sgd s7, (bkd s7).2, hlk2, fun v ⟨f, hv, ⟨df, hf⟩, _⟩ => ?_⟩
    have tp : ∀ {H' : Hp}, Same H7 H' → SqT K H' v [.ref f, .str (wd e.ds)] := fun s' => SqT.of (s' _ _ (sgd s7 _ _ hv))
    have hv7 := sgd s7 _ _ hv
    have hf7 := sgd s7 _ _ hf
    refine ⟨_, rfl, .ref v, .ty "tuple", .type "tuple", .type "tuple", true, rfl, .ty _, .base (.tup hv7), kit_ty (by decide +kernel), _, rfl, ifF rfl ?_⟩
    refine ⟨_, rfl, v, _, rfl, .inr (tp (Same.refl _)), rfl, _, rfl, ifF rfl ?_⟩
    refine ⟨_, rfl, v, _, _, _, rfl, rfl, tp (Same.refl _), rfl, ?_⟩
    refine ⟨_, rfl, _, rfl, h1, _, rfl, dg (Same.refl _), p, _, _, _, rfl, rfl, hp (Same.refl _), rfl, ?_⟩
    refine ⟨_, rfl, _, rfl, h1, _, rfl, dg (Same.refl _), p, _, _, _, rfl, rfl, hp (Same.refl _), rfl, ?_⟩
    refine fun f' df' hf' hdf' hne => ⟨f', df', e.b, e.n, rfl, eok.F, upd_same, fun H8 k8 hf8 => ⟨rfl, ?_⟩⟩
    have s8 : Same H7 H8 := fun x o hx => k8 _ _ (ne_of_none hx hf') (by rw [upd_ne (ne_of_none hx hf'), upd_ne (ne_of_none hx hdf')]; exact hx)
    refine ⟨f, df, _, f', df', _, rfl, rfl, s8 _ _ hf7, hf8, f, f', e.b, e.n, e.b, e.n, rfl, ⟨df, s8 _ _ hf7⟩, ⟨df', hf8⟩, _, rfl, _, rfl, ifF (by simp) ?_⟩
    refine ⟨_, rfl, v, _, _, _, rfl, rfl, tp s8, rfl, ?_⟩
    refine ⟨_, rfl, _, rfl, h1, _, rfl, dg s8, p, _, _, _, rfl, rfl, hp s8, rfl, ?_⟩
    refine ⟨rfl, _, rfl, ifF (by simp) ?_⟩
    refine ⟨_, rfl, .ref b, rfl, b, dx, _, rfl, (bkd (s7.trans s8)).1, Gd, b, snapB cc, rest.map snapB, t, rfl, sgd (s7.trans s8), (bkd (s7.trans s8)).2, by rw [slen]; omega, fun H9 s9 => ⟨_, rfl, _, rfl, ifF ?_ ?_⟩⟩
    · have : t ∈ (snapB cc).held.map (·.1) := List.mem_map.mpr ⟨(t, e), (List.mergeSort_perm _ _).mem_iff.mpr hmem, rfl⟩
      simp [this]
    · exact ⟨(s7.trans s8).trans s9, _, _, rfl⟩
  · rintro σ H7 ⟨s7, x0, y0, rfl⟩
    refine ⟨s7 _ _ upd_same, q _ fun x o hx => ?_⟩
    by_cases z : x = h1
    · subst z
      rw [sg _ _ ih1] at hx
      cases hx
      exact upd_same
    · rw [upd_ne z]
      exact s7 _ _ (by rw [upd_ne z]; exact s6 _ _ hx)
end
end Spf
end
section
set_option maxHeartbeats 4000000
/-! A deed told: the law's state and the book's go together. -/
namespace Spf
open PySem PySem.Spec PyProof.Rows L2 L2H HotX LamX
/-! ### a ghost heap without tables -/
def nt (G : Hp) : Hp := fun x => match G x with
  | some (.tbl _) => none
  | o => o
theorem nt_get {G : Hp} {a : Addr} {o : HO} (h : G a = some o) (n : ∀ ps, o ≠ .tbl ps) : nt G a = some o := by
  unfold nt
  rw [h]
  cases o <;> first | rfl | exact absurd rfl (n _)
theorem nt_sub {G : Hp} {a : Addr} {o : HO} (h : nt G a = some o) : G a = some o := by
  unfold nt at h
  split at h
  · cases h
  · exact h
theorem nt_no (G : Hp) : NoTbl (nt G) := fun a ps h => by
  have e := nt_sub h
  unfold nt at h
  rw [e] at h
  cases h
theorem Grow.nt {H G H' G' : Hp} (g : Grow H G H' G') (n : NoTbl G) : Grow H G H' (Spf.nt G') :=
  ⟨fun a o h => nt_get (g.same _ _ h) fun ps z => n a ps (z ▸ h), fun x h h' => g.new x h fun z => h' (by unfold Spf.nt; rw [z]), fun a o h => g.le _ _ (nt_sub h)⟩
theorem IsEnt.nt {G : Hp} {a : Addr} {e : Ent} (h : IsEnt G a e) : IsEnt (Spf.nt G) a e := ⟨nt_get h.1 fun _ z => (by cases z), h.2⟩
theorem IsHeld.nt {G : Hp} {a : Addr} {hd : Held} : IsHeld G a hd → IsHeld (Spf.nt G) a hd := fun ⟨kvs, h1, h2, h3⟩ => ⟨kvs, nt_get h1 fun _ z => (by cases z), h2.mono fun _ _ ⟨e, p, e2, hp⟩ => ⟨e, p, e2, hp.nt⟩, h3⟩
theorem IsWish.nt {G : Hp} {a : Addr} {w : Wish} (h : IsWish G a w) : IsWish (Spf.nt G) a w := ⟨nt_get h.1 fun _ z => (by cases z), h.2⟩
theorem IsHopes.nt {G : Hp} {a : Addr} {ws : List Wish} : IsHopes G a ws → IsHopes (Spf.nt G) a ws := fun ⟨ps, h1, h2⟩ => ⟨ps, nt_get h1 fun _ z => (by cases z), h2.mono fun _ _ h => h.nt⟩
theorem IsSt.nt {G : Hp} : ∀ {a : Addr} {cs : List Snap}, IsSt G a cs → IsSt (Spf.nt G) a cs
  | _, [], h => h
  | a, c :: rest, ⟨h, o, p, ps, h1, h2, h3, h4, h5, h6, h7⟩ => ⟨h, o, p, ps, nt_get h1 fun _ z => (by cases z), h2.nt, h3.nt, h4, nt_get h5 fun _ z => (by cases z), h6, fun n => by
    obtain ⟨q, e, r⟩ := h7 n
    exact ⟨q, e, IsSt.nt r⟩⟩
theorem IsDeed.nt {G : Hp} {a : Addr} : ∀ {d : Deed}, IsDeed G a d → IsDeed (Spf.nt G) a d
  | .undo, h => nt_get h fun _ z => by cases z
  | .put _ _, ⟨p, h, e⟩ => ⟨p, nt_get h fun _ z => (by cases z), e.nt⟩
  | .wish _, ⟨p, h, e⟩ => ⟨p, nt_get h fun _ z => (by cases z), e.nt⟩
  | .lift _, h => nt_get h fun _ z => by cases z
/-- all but tables is kept -/
theorem IsVal.nt {C : Addr} {G : Hp} {v : Addr} {e : Ent} : IsVal C G v e → IsVal C (Spf.nt G) v e := fun ⟨f, h1, ⟨dx, h2⟩, h3⟩ => ⟨f, nt_get h1 fun _ z => (by cases z), ⟨dx, nt_get h2 fun _ z => (by cases z)⟩, h3⟩
theorem IsRow.nt {C : Addr} {G : Hp} {p : Addr} {te : Str × Ent} : IsRow C G p te → IsRow C (Spf.nt G) p te := fun ⟨v, h1, h2⟩ => ⟨v, nt_get h1 fun _ z => (by cases z), h2.nt⟩
theorem IsEntT.nt {C : Addr} {G : Hp} {e : Addr} {hd : Held} : IsEntT C G e hd → IsEntT C (Spf.nt G) e hd
  | .inl ⟨h1, h2⟩ => .inl ⟨h1, nt_get h2 fun _ z => by cases z⟩
  | .inr ⟨o, ps, h1, h2, h3⟩ => .inr ⟨o, ps, nt_get h1 fun _ z => (by cases z), h2, h3.mono fun _ _ h => h.nt⟩
theorem IsWishT.nt {G : Hp} {w : Addr} {ws : List Wish} : IsWishT G w ws → IsWishT (Spf.nt G) w ws := fun ⟨qs, h1, h2⟩ => ⟨qs, nt_get h1 fun _ z => (by cases z), h2.mono fun _ _ h => h.nt⟩
theorem IsSnap.nt {C : Addr} {G : Hp} {p : Addr} {c : Snap} : IsSnap C G p c → IsSnap C (Spf.nt G) p c := fun ⟨e, w, h1, h2, h3⟩ => ⟨e, w, nt_get h1 fun _ z => (by cases z), h2.nt, h3.nt⟩
theorem IsStates.nt {C : Addr} {G : Hp} {t : Addr} {bs : List Snap} : IsStates C G t bs → IsStates C (Spf.nt G) t bs := fun ⟨ss, h1, h2⟩ => ⟨ss, nt_get h1 fun _ z => (by cases z), h2.mono fun _ _ h => h.nt⟩
theorem IsBook.nt {CB C : Addr} {H G : Hp} {b : Addr} {bs : List Snap} : IsBook CB C H G b bs → IsBook CB C H (Spf.nt G) b bs := fun ⟨dx, t, h1, h2⟩ => ⟨dx, t, h1, h2.nt⟩
theorem IsBook.mono {CB C : Addr} {H H' G G' : Hp} {b : Addr} {bs : List Snap} (k : ∀ o, H b = some o → H' b = some o) (s : Same G G') : IsBook CB C H G b bs → IsBook CB C H' G' b bs := fun ⟨dx, t, h1, h2⟩ => ⟨dx, t, k _ h1, h2.mono s⟩
/-! ### states -/
theorem keys_put {hd : Held} {t : Str} {e : Ent} (h : ∀ kv ∈ hd, kv.1 ∈ nms) (ht : t ∈ nms) : ∀ kv ∈ putH hd t e, kv.1 ∈ nms := by
  intro kv hk
  unfold putH at hk
  split at hk
  · obtain ⟨x, hx, e⟩ := List.mem_map.mp hk
    split at e
    · exact e ▸ h x hx
    · exact e ▸ h x hx
  · rcases List.mem_append.mp hk with hk | hk
    · exact h kv hk
    · rw [List.mem_singleton.mp hk]; exact ht
theorem named_put2 {hd : Held} {t : Str} {e : Ent} {w : Wish} (h : Named hd w) : Named (putH hd t e) w := fun u hu => by
  rw [look_put]
  split
  · rfl
  · exact h u hu
/-- states: each is well, the eldest is empty -/
structure StOk (n : Nat) (cs : List Snap) : Prop where
  len : cs.length ≤ n
  ok : ∀ c ∈ cs, SnapOk c
  last : cs.getLast? = some ⟨[], []⟩
theorem StOk.mono {n m : Nat} {cs : List Snap} (h : StOk n cs) (l : n ≤ m) : StOk m cs := ⟨Nat.le_trans h.len l, h.ok, h.last⟩
theorem StOk.push {n : Nat} {c : Snap} {cs : List Snap} (h : StOk n cs) (k : SnapOk c) : StOk (n + 1) (c :: cs) := by
  refine ⟨by have := h.len; rw [List.length_cons]; omega, fun x hx => ?_, ?_⟩
  · rcases List.mem_cons.mp hx with e | hx
    · exact e ▸ k
    · exact h.ok x hx
  · have := h.last
    cases cs with
    | nil => cases this
    | cons c' cs => rw [List.getLast?_cons_cons]; exact this
theorem due_ok {n : Nat} {c : Snap} {rest : List Snap} {d : Deed} (h : StOk n (c :: rest)) (hd : DeedOk c d) : StOk (n + 1) (due (c :: rest) d).2 ∧ ToldOk (due (c :: rest) d).1 := by
  have hc := h.ok c List.mem_cons_self
  have h1 := h.mono (Nat.le_succ n)
  cases d with
  | undo =>
    cases rest with
    | nil => exact ⟨h1, trivial⟩
    | cons r rs =>
      refine ⟨⟨by have := h.len; simp only [List.length_cons] at this; show (r :: rs).length ≤ _; rw [List.length_cons]; omega, fun x hx => h.ok x (List.mem_cons_of_mem _ hx), ?_⟩, trivial⟩
      have := h.last
      rw [List.getLast?_cons_cons] at this
      exact this
  | put t e =>
    simp only [due]
    cases hb : brk (putH c.held t e) c.hopes with
    | none =>
      exact ⟨h.push ⟨keys_put hc.keys hd.1, putH_keys _ _ _ hc.nd, hc.hopes, fun w hw => named_put2 (hc.named w hw)⟩, trivial⟩
    | some k =>
      refine ⟨h1, ?_⟩
      have : k < c.hopes.length := by
        unfold brk at hb
        exact (List.findIdx?_eq_some_iff_getElem.mp hb).1
      have := hc.hopes
      show k ≤ 1000
      omega
  | wish w =>
    obtain ⟨d1, d2, d3, d4⟩ := hd
    simp only [due]
    cases hs : strange c.held w with
    | some t =>
      refine ⟨h1, ?_⟩
      unfold strange at hs
      exact d3 t (List.mem_of_find?_eq_some hs)
    | none =>
      cases hb : brk c.held (c.hopes ++ [w]) with
      | none =>
        refine ⟨h.push ⟨hc.keys, hc.nd, by rw [List.length_append, List.length_singleton]; omega, fun v hv => ?_⟩, trivial⟩
        rcases List.mem_append.mp hv with hv | hv
        · exact hc.named v hv
        · rw [List.mem_singleton.mp hv]; exact strange_none hs
      | some k =>
        refine ⟨h1, ?_⟩
        have : k < (c.hopes ++ [w]).length := by
          unfold brk at hb
          exact (List.findIdx?_eq_some_iff_getElem.mp hb).1
        rw [List.length_append, List.length_singleton] at this
        show k ≤ 1000
        omega
  | lift i =>
    simp only [due]
    by_cases hi : 0 ≤ i ∧ i < c.hopes.length
    · rw [if_pos hi]
      refine ⟨h.push ⟨hc.keys, hc.nd, ?_, fun v hv => ?_⟩, trivial⟩
      · have := hc.hopes
        simp only [List.length_append, List.length_take, List.length_drop]
        omega
      · rcases List.mem_append.mp hv with hv | hv
        · exact hc.named v (List.mem_of_mem_take hv)
        · exact hc.named v (List.mem_of_mem_drop hv)
    · rw [if_neg hi]
      refine ⟨h1, ?_⟩
      have h5 := hc.hopes
      obtain ⟨l1, l2⟩ := hd
      show -1000 ≤ i ∧ i ≤ 1000
      omega
theorem snapB_put {c : Snap} (k : SnapOk c) (t : Str) (e : Ent) : (⟨putS (snapB c).held t e, (snapB c).hopes⟩ : Snap) = snapB ⟨putH c.held t e, c.hopes⟩ := by
  show (⟨putS (sortH c.held) t e, c.hopes⟩ : Snap) = ⟨sortH (putH c.held t e), c.hopes⟩
  rw [putS_sort k.nd t e (putH_keys _ _ _ k.nd)]
section
variable {K : PySem.W.Frag} {mg : Str → Option Value} {base : Heap}
/-- the deed done, and told -/
theorem do_told (T : TxtA K mg) (F : TabFacts K mg base T) {G H : Hp} {b dd : Addr} {c : Snap} {rest : List Snap} {d : Deed} {k : Bool} {Q : VK} (sg : Same G H) (ng : NoTbl G) (gb : G b = none) (ib : IsBook T.Book.C T.Field.C H G b ((c :: rest).map snapB)) (ok : StOk 980 (c :: rest)) (idd : IsDeed G dd d) (od : DeedOk c d) (hT : Tabs F.TL H)
    (hw : ∀ p w, d = .wish w → IsWish G p w → w.sane)
    (q : ∀ l H' G', FrB b H H' → Tabs F.TL H' → Grow H G H' G' → IsBook T.Book.C T.Field.C H' G' b ((due (c :: rest) d).2.map snapB) → DxK T.Book.C b H H' → H' l = some (.lst (toldV (due (c :: rest) d).1)) → Q (.ref l) H')
    {Q' : VK} {E' : XK} (h1 : ∀ v H1, (∀ l H2, Same H1 H2 → H1 l = none → H2 l = some (.lst [.str "told", v]) → Q (.ref l) H2) → Q' v H1)
    (h2 : ∀ cls d H1 fi wd, Sort4 T cls fi wd → (∀ a, spLWord a d fi wd [.ref a] H1 Q E0) → E' cls d H1) : spLDo T F [.ref b, .ref dd, .bl k] H Q' E' := by
  have hc := ok.ok c List.mem_cons_self
  have hl : rest.length ≤ 979 := by have := ok.len; rw [List.length_cons] at this; omega
  have few := hc.few
  have hop := hc.hopes
  have slen : (snapB c).held.length = c.held.length := sort_len _
  have snd : ((snapB c).held.map (·.1)).Nodup := sort_nodup hc.nd
  obtain ⟨dx, t0, hb, ist⟩ := id ib
  -- the ways out
  have good : ∀ bs : List Snap, (due (c :: rest) d).1 = .told → bs = (due (c :: rest) d).2.map snapB → BookEnd F.TL T.Book.C T.Field.C H G b bs (Q' .non) := fun bs e1 e2 => fun H' G' fr tb gr bk dk => by
    subst e2
    refine h1 _ _ fun l H2 s2 hl0 hl2 => q l H2 G' (fr.trans (FrB.same s2)) ?_ (gr.later s2) (bk.mono (fun o h => s2 _ _ h) (Same.refl _)) (fun dx fs e => by obtain ⟨fs', e'⟩ := dk dx fs e; exact ⟨fs', s2 _ _ e'⟩) (by rw [e1]; exact hl2)
    exact fun p hp => by
      obtain ⟨ps, z1, z2, z3⟩ := tb p hp
      exact ⟨ps, s2 _ _ z1, z2, fun pos cv z => by
        obtain ⟨c', z4, z5⟩ := z3 pos cv z
        exact ⟨c', z4, s2 _ _ z5⟩⟩
  have same_tabs : ∀ {H1 H2 : Hp}, Same H1 H2 → Tabs F.TL H1 → Tabs F.TL H2 := fun s2 tb p hp => by
    obtain ⟨ps, z1, z2, z3⟩ := tb p hp
    exact ⟨ps, s2 _ _ z1, z2, fun pos cv z => by
      obtain ⟨c', z4, z5⟩ := z3 pos cv z
      exact ⟨c', z4, s2 _ _ z5⟩⟩
  have bad : ∀ (cls : Value) (fi wd : Str) (v : V) (dd' : Addr) (H1 : Hp), Sort4 T cls fi wd → fi ≠ "" → (due (c :: rest) d).2 = c :: rest → toldV (due (c :: rest) d).1 = [.str wd, v] → ExtN H H1 → Tabs F.TL H1 → H1 dd' = some (.xd [(fi, v)]) → E' cls (some dd') H1 := fun cls fi wd v dd' H1 h4 hfi e1 e2 ex tb hd1 => by
    refine h2 cls (some dd') H1 fi wd h4 fun a => ⟨rfl, fun z hz => ?_, .inr ⟨dd', v, hfi, rfl, hd1, fun l H2 s2 hl0 hl2 => ?_⟩⟩
    · cases hz; exact ⟨_, hd1⟩
    · refine q l H2 G ((FrB.ext ex).trans (FrB.same s2)) (same_tabs s2 tb) ⟨Same.refl _, fun x h h' => absurd h h', (ghostN sg ng ex).trans s2⟩ ?_ (fun dx fs e => ⟨fs, s2 _ _ (ex _ _ e fun ps z => by cases z)⟩) (by rw [e2]; exact hl2)
      rw [e1]
      exact ib.mono (fun o h => by
        rw [hb] at h
        cases h
        exact s2 _ _ (ex _ _ hb fun ps z => by cases z)) (Same.refl _)
  refine ⟨G, b, dx, dd, t0, d, k, rfl, sg, idd, hb, ?_⟩
  cases d with
  | undo =>
    refine ⟨G, b, snapB c, rest.map snapB, rfl, sg, gb, ib, hT, fun e => ?_, fun e => ?_⟩
    · have e' : rest = [] := List.map_eq_nil_iff.mp e
      subst e'
      refine h2 (.ref T.NU) none H "" "NothingToUndo" (.inr (.inr (.inr ⟨rfl, rfl, rfl⟩))) fun a => ⟨rfl, fun z hz => (by cases hz), .inl ⟨rfl, rfl, fun l H2 s2 hl0 hl2 => ?_⟩⟩
      exact q l H2 G (FrB.same s2) (same_tabs s2 hT) (Grow.of sg s2) (ib.mono (fun o h => s2 _ _ h) (Same.refl _)) (fun dx fs e => ⟨fs, s2 _ _ e⟩) hl2
    · cases rest with
      | nil => exact absurd rfl e
      | cons r rs => exact good _ rfl rfl
  | put t e =>
    refine fun v H1 G1 s1 g1 n1 iv => ?_
    have ib1 : IsBook T.Book.C T.Field.C H1 G1 b (snapB c :: rest.map snapB) := ib.mono (fun o h => s1 _ _ h) g1.same
    have gb1 : G1 b = none := g1.off hb gb fun ps z => by cases z
    have e0 : putS (snapB c).held t e = sortH (putH c.held t e) := putS_sort hc.nd t e (putH_keys _ _ _ hc.nd)
    have e1 : brk (putS (snapB c).held t e) (snapB c).hopes = brk (putH c.held t e) c.hopes := by
      rw [e0]
      exact brk_sort (putH_keys _ _ _ hc.nd) _
    have ht : NameOk t := by
      have := od.1
      simp only [nms, List.mem_cons, List.not_mem_nil, or_false] at this
      rcases this with rfl | rfl | rfl
      · exact ok_a
      · exact ok_b2
      · exact ok_old
    refine ⟨G1, b, v, snapB c, rest.map snapB, t, e, rfl, g1.le, n1 ng, gb1, ib1, same_tabs s1 hT, by rw [List.length_map]; omega, by rw [slen]; omega, snd, iv, ht, fun w hw => ?_, fun kk hk dd' H2 ex tb hd2 fr => ?_, fun hk => ?_⟩
    · rw [e0]
      exact named_congr (fun u => (look_sort (putH_keys _ _ _ hc.nd) u).symm) (named_put2 (hc.named w hw))
    · rw [e1] at hk
      refine bad (.ref T.Br) "index" "Broken" _ dd' H2 (.inr (.inr (.inl ⟨rfl, rfl, rfl⟩))) (by decide) ?_ ?_ (fun x o h n => ex _ _ (s1 _ _ h) n) tb hd2
      · simp only [due, hk]
      · simp only [due, hk]; rfl
    · rw [e1] at hk
      have g : BookEnd F.TL T.Book.C T.Field.C H G b (snapB ⟨putH c.held t e, c.hopes⟩ :: snapB c :: rest.map snapB) (Q' .non) := good _ (by simp only [due, hk]) (by simp only [due, hk, List.map_cons])
      rw [snapB_put hc]
      refine fun H2 G2 fr tb gr bk dk => g H2 G2 ((FrB.same s1).trans fr) tb ?_ bk fun dx fs e => dk dx fs (s1 _ _ e)
      exact g1.trans gr fun x hx => fun o ho => hx o (s1 _ _ ho)
  | wish w =>
    obtain ⟨d1, d2, d3, d4⟩ := od
    refine fun p ip => ?_
    have hne : (snapB c).held ≠ [] := fun z => d1 (List.length_eq_zero_iff.mp (by rw [← slen, z]; rfl))
    have e1 : strange (snapB c).held w = strange c.held w := strange_sort hc.nd w
    have e2 : ∀ ws, brk (snapB c).held ws = brk c.held ws := fun ws => brk_sort hc.nd ws
    have htags : ∀ t ∈ w.tags, NameOk t := fun t ht => by
      rcases d3 t ht with h | h
      · simp only [nms, List.mem_cons, List.not_mem_nil, or_false] at h
        rcases h with rfl | rfl | rfl
        · exact ok_a
        · exact ok_b2
        · exact ok_old
      · exact h ▸ ok_none
    refine ⟨G, b, snapB c, rest.map snapB, p, w, rfl, sg, gb, ib, hT, by show c.hopes.length ≤ 1000; omega, by rw [List.length_map]; omega, by rw [slen]; omega, hne, snd, ip, htags, fun v hv => named_congr (fun u => (look_sort hc.nd u).symm) (hc.named v hv), fun t ht dd' H2 s2 hd2 h0 => ?_, fun hs kk hk dd' H2 s2 hd2 h0 => ?_, fun hs hk => ?_⟩
    · rw [e1] at ht
      refine bad (.ref T.UN) "given" "UnknownName" _ dd' H2 (.inr (.inl ⟨rfl, rfl, rfl⟩)) (by decide) ?_ ?_ (fun x o h n => s2 _ _ h) (same_tabs s2 hT) hd2
      · simp only [due, ht]
      · simp only [due, ht]; rfl
    · rw [e1] at hs
      rw [e2] at hk
      have hk' : brk c.held (c.hopes ++ [w]) = some kk := hk
      refine bad (.ref T.Br) "index" "Broken" _ dd' H2 (.inr (.inr (.inl ⟨rfl, rfl, rfl⟩))) (by decide) ?_ ?_ (fun x o h n => s2 _ _ h) (same_tabs s2 hT) hd2
      · simp only [due, hs, hk']
      · simp only [due, hs, hk']; rfl
    · rw [e1] at hs
      rw [e2] at hk
      have hk' : brk c.held (c.hopes ++ [w]) = none := hk
      exact good _ (by simp only [due, hs, hk']) (by simp only [due, hs, hk', List.map_cons]; rfl)
  | lift i =>
    refine ⟨G, b, snapB c, rest.map snapB, i, rfl, sg, gb, ib, hT, by show c.hopes.length ≤ 1000; omega, by rw [List.length_map]; omega, fun hi dd' H2 s2 hd2 h0 => ?_, fun hi => ?_⟩
    · have hi' : ¬ (0 ≤ i ∧ i < c.hopes.length) := hi
      refine bad (.ref T.II) "given" "InvalidIndex" _ dd' H2 (.inl ⟨rfl, rfl, rfl⟩) (by decide) ?_ ?_ (fun x o h n => s2 _ _ h) (same_tabs s2 hT) hd2
      · simp only [due, if_neg hi']
      · simp only [due, if_neg hi']; rfl
    · have hi' : 0 ≤ i ∧ i < c.hopes.length := hi
      exact good _ (by simp only [due, if_pos hi']) (by simp only [due, if_pos hi', List.map_cons]; rfl)
end
end Spf
end
section
set_option maxHeartbeats 4000000
/-! The state behind a deed. -/
namespace Spf
open PySem PySem.Spec PyProof.Rows L2 L2H HotX LamX
/-- all but the well at a, the book at b and the tables is kept -/
def FrA (a b : Addr) (H H' : Hp) : Prop := ∀ x o, x ≠ a → x ≠ b → (∀ ps, o ≠ .tbl ps) → H x = some o → H' x = some o
theorem FrA.refl (a b : Addr) (H : Hp) : FrA a b H H := fun _ _ _ _ _ h => h
theorem FrA.trans {a b : Addr} {H H1 H2 : Hp} (x : FrA a b H H1) (y : FrA a b H1 H2) : FrA a b H H2 := fun c o na nb t h => y c o na nb t (x c o na nb t h)
theorem FrA.ext {a b : Addr} {H H' : Hp} (x : ExtN H H') : FrA a b H H' := fun c o _ _ t h => x c o h t
theorem FrA.same {a b : Addr} {H H' : Hp} (x : Same H H') : FrA a b H H' := fun c o _ _ _ h => x c o h
theorem FrA.ex {a b : Addr} {H H' : Hp} (x : Ex a H H') : FrA a b H H' := fun c o na _ _ h => x c o na h
theorem FrA.frb {a b : Addr} {H H' : Hp} (x : FrB b H H') : FrA a b H H' := fun c o _ nb t h => x c o nb t h
theorem Well.nf {H : Hp} {a : Addr} {m : Nat} (w : Well H a m) : ∃ xs, H a = some (.lst xs) := by
  obtain ⟨x0, x1, x2, e, _⟩ := w
  exact ⟨_, e⟩
theorem Well.off {H : Hp} {a x : Addr} {m : Nat} (w : Well H a m) (h : Fresh H x) : x ≠ a := fun z => by
  obtain ⟨xs, e⟩ := w.nf
  obtain ⟨ps, z2⟩ := h _ (z ▸ e)
  cases z2
theorem IsBook.off {CB C : Addr} {H G : Hp} {b x : Addr} {bs : List Snap} (i : IsBook CB C H G b bs) (h : Fresh H x) : x ≠ b := fun z => by
  obtain ⟨dx, t, e, _⟩ := i
  obtain ⟨ps, z2⟩ := h _ (z ▸ e)
  cases z2
theorem Well.neb {CB C : Addr} {H G : Hp} {a b : Addr} {m : Nat} {bs : List Snap} (w : Well H a m) (i : IsBook CB C H G b bs) : a ≠ b := fun z => by
  obtain ⟨xs, e⟩ := w.nf
  obtain ⟨dx, t, e2, _⟩ := i
  rw [z, e2] at e
  cases e
/-- what is fresh later was fresh before -/
theorem FrA.fresh {a b x : Addr} {H H' : Hp} (f : FrA a b H H') (na : x ≠ a) (nb : x ≠ b) (h : Fresh H' x) : Fresh H x := fun o e => by
  by_cases t : ∃ ps, o = .tbl ps
  · exact t
  · exact h o (f x o na nb (fun ps z => t ⟨ps, z⟩) e)
theorem ghostA {a b : Addr} {G H H' : Hp} (s : Same G H) (n : NoTbl G) (ha : G a = none) (hb : G b = none) (e : FrA a b H H') : Same G H' := fun x o h => e x o (ne_of_none h ha) (ne_of_none h hb) (fun ps z => n x ps (z ▸ h)) (s x o h)
theorem Tabs.same {T : List (Addr × Str)} {H1 H2 : Hp} (s2 : Same H1 H2) (tb : Tabs T H1) : Tabs T H2 := fun p hp => by
  obtain ⟨ps, z1, z2, z3⟩ := tb p hp
  exact ⟨ps, s2 _ _ z1, z2, fun pos cv z => by
    obtain ⟨c', z4, z5⟩ := z3 pos cv z
    exact ⟨c', z4, s2 _ _ z5⟩⟩
section
variable {P : Program} {w : World} {K : PySem.W.Frag} {mg : Str → Option Value} {base : Heap}
abbrev vLBehind : List Str := ["_law_well_here", "_law_shelf", "_law_state", "_law_deed_here", "_law_due_here", "_law_later", "_law_told_here"]
abbrev pLBehind : List Str := ["_law_well_here", "_law_shelf", "_law_state", "_law_deed_here"]
theorem scLBehind : FnScope vLBehind pLBehind (defScope (top 78)) := ⟨rfl, rfl, rfl, by decide +kernel, rfl, by decide +kernel, by decide +kernel⟩
def spBehind (T : TxtA K mg) (F : TabFacts K mg base T) : Sp := fun vs H Q _ => ∃ (G : Hp) (a b st dd : Addr) (c : Snap) (rest : List Snap) (d : Deed) (m : Nat), vs = [.ref a, .ref b, .ref st, .ref dd] ∧ Same G H ∧ NoTbl G ∧ G a = none ∧ G b = none ∧ Well H a m ∧ m + 1 ≤ 2 ^ 40 ∧
  IsBook T.Book.C T.Field.C H G b ((c :: rest).map snapB) ∧ IsSt G st (c :: rest) ∧ StOk 960 (c :: rest) ∧ IsDeed G dd d ∧ DeedOk c d ∧ Tabs F.TL H ∧
  ∀ (s' : Addr) (H' G' : Hp), FrA a b H H' → Tabs F.TL H' → NoTbl G' → Grow H G H' G' → IsSt G' s' (due (c :: rest) d).2 → IsBook T.Book.C T.Field.C H' G' b ((due (c :: rest) d).2.map snapB) → DxK T.Book.C b H H' → Well H' a (m + 1) → Q (.ref s') H'
theorem okLBehind (T : TxtA K mg) (F : TabFacts K mg base T) (Kw : KwFacts T) : FnX P w K mg base CX0 true false 17 T.l_behind.f T.l_behind.fd pLBehind (spBehind T F) := by
  refine funXc (k := 16) T.l_behind.F scLBehind (fun vs H Q E ⟨G, a, b, st, dd, c, rest, d, m, e, _⟩ => e ▸ rfl) fun cdv A outer s H vs Q E p hcd c ⟨G, a, b, st, dd, cc, rest, d, m, e, sg, ng, ga, gb, hw, hm, ib, is, ok, idd, od, hT, q⟩ => ?_
  subst e
  have hc : cdv = .ref F.cB := by rw [← hcd]; exact F.codeB
  have hg : (true : Bool) = true := rfl
  refine ⟨_, pss_cons (ps_asg (pe_callX (okLDue T) (c.mono (by decide)) nogd rfl T.l_due.mg T.l_due.kp T.l_due.b at00 (pa_cons (pv 2) (pa_cons (pv 3) pa_nil))) (pg_tupX c.md (pgs_cons (pg_name (i := 4) scLBehind.nd rfl (Or.inl rfl)) (pgs_cons (pg_name (i := 5) scLBehind.nd rfl (Or.inl rfl)) pgs_nil))))
      (pss_cons (ps_set (i := 6) scLBehind.nd rfl (Or.inl rfl) (pe_lamX (T := F.TL) (TT := tfTold T) (k := 14) (gg := false) rfl T.l_told.mg T.l_told.F T.l_told.b scLTold rfl (Or.inl rfl) (fun cdg => okLTold (X := cxX CX0 P w K mg base vLBehind "_law_behind" (defScope (top 78)) T.l_behind.f cdv A outer s H E false p) (k := 15) (p0 := p) T (show 5 ≤ 15 by decide) cdg _) c nogd F.tabB hc F.memB F.unB (lamS_by (sc := defScope (top 78)) (by decide +kernel)) rfl (fun _ _ _ _ _ => rfl)
        (fun A outer s H E f c' c3 => pe_callX (okLDo T F Kw) (c3.mono (by decide)) nogd rfl T.l_do.mg T.l_do.kp T.l_do.b (fun σ => L2N.passAt lamN_takes σ) (pa_cons (pv 1) (pa_cons (pv 3) (pa_cons (pe_cmpR op_eq (pe_callX (okLDip T) (c3.mono (by decide)) nogd rfl T.l_dip.mg T.l_dip.kp T.l_dip.b at00 (pa_cons (pv 0) (pa_cons pe_int pa_nil))) pe_int (nomark _)) pa_nil))))))
      (pss_one (ps_ret (pe_ifExp (PW.pt (pw_and (pt_cmpR op_eq (pe_callB (call_reprD c hg) (by rfl) T.repr (by decide +kernel) (pa_cons (pv 6) pa_nil)) (pe_callB (call_reprD c hg) (by rfl) T.repr (by decide +kernel) (pa_cons (pv 4) pa_nil)) (nomark _)) (pw_and1 (pt_val (pe_callX (okLFits T) (c.mono (by decide)) (fun z => z) rfl T.l_fits.mg T.l_fits.kp T.l_fits.b at00 (pa_cons (pv 1) (pa_cons (pv 5) pa_nil))))))) (pv 5) pe_non)))), ?_⟩
  have hlen := ok.len
  have hab := hw.neb ib
  refine ⟨_, rfl, _, rfl, G, st, dd, cc :: rest, d, rfl, sg, is, idd, by omega, fun x hx => ?_, fun t l s' H1 G1 s1 g1 ht ht0 hl hl0 is1 => ?_⟩
  · have := ok.ok x hx
    have h1 := this.hopes
    have h2 := this.few
    exact ⟨by omega, by omega⟩
  obtain ⟨ok2, tok⟩ := due_ok ok od
  obtain ⟨dx, t0, hb, ist⟩ := id ib
  obtain ⟨wx, hwx⟩ := hw.nf
  have nla : l ≠ a := fun z => by rw [z, hwx] at hl0; cases hl0
  have nlb : l ≠ b := fun z => by rw [z, hb] at hl0; cases hl0
  have ng1 := nt_no G1
  have g1n := g1.nt ng
  have ga1 : nt G1 a = none := g1n.off hwx ga fun ps z => by cases z
  have gb1 : nt G1 b = none := g1n.off hb gb fun ps z => by cases z
  refine ⟨t, _, rfl, SqT.of ht, rfl, _, _, rfl, _, _, rfl, rfl, ?_⟩
  refine ⟨Tabs.same s1 hT, fun H2 ex2 tb2 => fun E' Q' h1 h2 => ?_⟩
  have w2 : Well H2 a m := by
    obtain ⟨x0, x1, x2, e, r⟩ := id hw
    exact ⟨x0, x1, x2, ex2 _ _ (s1 _ _ e) (fun ps z => by cases z), r⟩
  refine ⟨_, rfl, _, rfl, _, rfl, a, _, m, rfl, w2, by omega, by decide, by decide, fun kd H3 hkd w3 e3 => ⟨rfl, ?_⟩⟩
  have fr3 : FrA a b H H3 := ((FrA.same s1).trans (FrA.ext ex2)).trans (FrA.ex e3)
  have sg3 : Same (nt G1) H3 := ghostA g1n.le ng1 ga1 gb1 ((FrA.ext ex2).trans (FrA.ex e3))
  have hb3 : H3 b = some (.ins T.Book.C dx [("states", .ref t0)]) := e3 _ _ (Ne.symm hab) (ex2 _ _ (s1 _ _ hb) fun ps z => by cases z)
  have ib3 : IsBook T.Book.C T.Field.C H3 (nt G1) b ((cc :: rest).map snapB) := ⟨dx, t0, hb3, ist.mono g1n.same⟩
  have tb3 : Tabs F.TL H3 := tabs_ex tb2 e3 w2.nf.choose_spec (fun ps z => by cases z) (fun c q z => by unfold CodeO at z; cases z)
  refine do_told T F sg3 ng1 gb1 ib3 (ok.mono (by decide)) (idd.mono g1n.same) od tb3 (fun p w _ h => h.2) ?_ h1 h2
  intro l2 H4 G4 fr4 tb4 gr4 ib4 dk4 hl2
  have hl4 : H4 l = some (.lst (toldV (due (cc :: rest) d).1)) := fr4 _ _ nlb (fun ps z => by cases z) (e3 _ _ nla (ex2 _ _ hl fun ps z => by cases z))
  have is4 : IsSt (nt G4) s' (due (cc :: rest) d).2 := (is1.nt.mono gr4.same).nt
  have gr4n := gr4.nt ng1
  refine ⟨.ref l2, rfl, l2, toldD (due (cc :: rest) d).1, rfl, dp_told (SqL.of hl2), told_shows tok, ?_⟩
  refine ⟨.ref l, rfl, l, toldD (due (cc :: rest) d).1, rfl, dp_told (SqL.of hl4), told_shows tok, ?_⟩
  refine ⟨rfl, _, rfl, ifT (by simp) ?_⟩
  refine ⟨_, rfl, _, rfl, nt G4, b, s', (due (cc :: rest) d).2, rfl, gr4n.le, ib4.nt, is4, by have := ok2.len; omega, ok2.ok, fun H5 s5 => ⟨_, rfl, ifT rfl ?_⟩⟩
  have w4 : Well H4 a (m + 1) := by
    obtain ⟨x0, x1, x2, e, r⟩ := id w3
    exact ⟨x0, x1, x2, fr4 _ _ hab (fun ps z => by cases z) e, r⟩
  have fr5 : FrA a b H H5 := (fr3.trans (FrA.frb fr4)).trans (FrA.same s5)
  refine ⟨_, rfl, q s' H5 (nt G4) fr5 (Tabs.same s5 tb4) (nt_no _) ?_ is4 (ib4.nt.mono (fun o h => s5 _ _ h) (Same.refl _)) (fun dx fs e => ?_) (w4.same s5)⟩
  · refine ⟨g1n.same.trans gr4n.same, fun x hx hx4 => ?_, gr4n.le.trans s5⟩
    by_cases z : nt G1 x = none
    · have fx := gr4n.new x z hx4
      exact fr3.fresh (w3.off fx) (ib3.off fx) fx
    · exact g1n.new x hx z
  · rw [hb] at e
    cases e
    obtain ⟨fs', e'⟩ := dk4 dx _ hb3
    exact ⟨fs', s5 _ _ e'⟩
end
end Spf
end
section
set_option maxHeartbeats 4000000
/-! How the book, the state and the well stand together; steps. -/
namespace Spf
open PySem PySem.Spec PyProof.Rows L2 L2H HotX LamX
section
variable {K : PySem.W.Frag} {mg : Str → Option Value} {base : Heap}
/-- the well at a, the book at b, the law's state at st -/
structure Wld (T : TxtA K mg) (F : TabFacts K mg base T) (G H : Hp) (a b : Addr) (cs : List Snap) (st : Addr) (m k : Nat) : Prop where
  sg : Same G H
  ng : NoTbl G
  ga : G a = none
  gb : G b = none
  well : Well H a m
  bk : IsBook T.Book.C T.Field.C H G b (cs.map snapB)
  is : IsSt G st cs
  ok : StOk k cs
  tb : Tabs F.TL H
/-- all but those of L and the tables is kept; the ghost grows -/
structure Stp (CB b : Addr) (L : List Addr) (H G H' G' : Hp) : Prop where
  fr : ∀ x o, x ∉ L → (∀ ps, o ≠ .tbl ps) → H x = some o → H' x = some o
  gr : Grow H G H' G'
  dk : DxK CB b H H'
variable {T : TxtA K mg} {F : TabFacts K mg base T} {G H G' H' G2 H2 : Hp} {a b st : Addr} {cs : List Snap} {m k : Nat} {L L' : List Addr} {CB : Addr}
theorem Stp.refl (s : Same G H) : Stp CB b L H G H G := ⟨fun _ _ _ _ h => h, Grow.refl s, fun dx fs e => ⟨fs, e⟩⟩
theorem Stp.wide (s : Stp CB b L H G H' G') (h : ∀ x ∈ L, x ∈ L') : Stp CB b L' H G H' G' := ⟨fun x o n t e => s.fr x o (fun z => n (h x z)) t e, s.gr, s.dk⟩
theorem Stp.fresh (s : Stp CB b L H G H' G') {x : Addr} (n : x ∉ L) (h : Fresh H' x) : Fresh H x := fun o e => by
  by_cases t : ∃ ps, o = .tbl ps
  · exact t
  · exact h o (s.fr x o n (fun ps z => t ⟨ps, z⟩) e)
/-- what stands at the addresses of L is no table -/
def Held4 (L : List Addr) (H : Hp) : Prop := ∀ x ∈ L, ¬ Fresh H x
theorem Stp.trans (s : Stp CB b L H G H' G') (s2 : Stp CB b L H' G' H2 G2) (h : Held4 L H') : Stp CB b L H G H2 G2 :=
  ⟨fun x o n t e => s2.fr x o n t (s.fr x o n t e), s.gr.trans s2.gr fun x hx => s.fresh (fun z => h x z hx) hx, fun dx fs e => by
    obtain ⟨fs', e'⟩ := s.dk dx fs e
    exact s2.dk dx fs' e'⟩
theorem Stp.same (s : Stp CB b L H G H' G') (s2 : Same H' H2) : Stp CB b L H G H2 G' := ⟨fun x o n t e => s2 _ _ (s.fr x o n t e), s.gr.later s2, fun dx fs e => by
  obtain ⟨fs', e'⟩ := s.dk dx fs e
  exact ⟨fs', s2 _ _ e'⟩⟩
theorem Stp.of (s : Same G H) (s2 : Same H H2) : Stp CB b L H G H2 G := (Stp.refl s).same s2
/-- an object of L changed its content -/
theorem Stp.put (s : Stp CB b L H G H' G') {x : Addr} {o : HO} (hx : x ∈ L) (hg : G' x = none) (hb : x ≠ b) : Stp CB b L H G (upd H' x o) G' := by
  refine ⟨fun y u n t e => ?_, ⟨s.gr.same, s.gr.new, fun y u e => ?_⟩, fun dx fs e => ?_⟩
  · have nyx : y ≠ x := fun z => n (by rw [z]; exact hx)
    rw [upd_ne nyx]
    exact s.fr y u n t e
  · rw [upd_ne (ne_of_none e hg)]
    exact s.gr.le _ _ e
  · obtain ⟨fs', e'⟩ := s.dk dx fs e
    exact ⟨fs', by rw [upd_ne hb.symm]; exact e'⟩
theorem fresh_not {H : Hp} {x : Addr} {o : HO} (h : H x = some o) (n : ∀ ps, o ≠ .tbl ps) : ¬ Fresh H x := fun f => by
  obtain ⟨ps, e⟩ := f o h
  exact n ps e
theorem Wld.mono (W : Wld T F G H a b cs st m k) {m' k' : Nat} (h1 : m ≤ m') (h2 : k ≤ k') : Wld T F G H a b cs st m' k' := ⟨W.sg, W.ng, W.ga, W.gb, W.well.mono h1, W.bk, W.is, W.ok.mono h2, W.tb⟩
theorem Wld.ab (W : Wld T F G H a b cs st m k) : a ≠ b := W.well.neb W.bk
theorem Wld.same (W : Wld T F G H a b cs st m k) (s : Same H H2) : Wld T F G H2 a b cs st m k := ⟨W.sg.trans s, W.ng, W.ga, W.gb, W.well.same s, W.bk.mono (fun o h => s _ _ h) (Same.refl _), W.is, W.ok, Tabs.same s W.tb⟩
theorem Wld.nf (W : Wld T F G H a b cs st m k) : ¬ Fresh H a ∧ ¬ Fresh H b := by
  obtain ⟨xs, e⟩ := W.well.nf
  obtain ⟨dx, t, e2, _⟩ := W.bk
  exact ⟨fresh_not e fun ps z => (by cases z), fresh_not e2 fun ps z => (by cases z)⟩
/-- a list changed its content -/
theorem Wld.put (W : Wld T F G H a b cs st m k) {x : Addr} {xs : List V} {o : HO} (h : H x = some (.lst xs)) (hg : G x = none) (na : x ≠ a) : Wld T F G (upd H x o) a b cs st m k := by
  obtain ⟨dx, t, hb, ist⟩ := W.bk
  obtain ⟨x0, x1, x2, e, r⟩ := W.well
  have nb : x ≠ b := fun z => by rw [z, hb] at h; cases h
  refine ⟨fun y u e => ?_, W.ng, W.ga, W.gb, ⟨x0, x1, x2, by rw [upd_ne na.symm]; exact e, r⟩, ⟨dx, t, by rw [upd_ne nb.symm]; exact hb, ist⟩, W.is, W.ok, tabs_lst W.tb h⟩
  rw [upd_ne (ne_of_none e hg)]
  exact W.sg _ _ e
/-- the entries -/
def Ents (G : Hp) (en : Addr) : Prop := ∃ (ps : List Addr) (es : List Ent), G en = some (.lst (ps.map V.ref)) ∧ Paired (IsEnt G) ps es ∧ ps.length = 6
theorem Ents.mono {en : Addr} (s : Same G G') : Ents G en → Ents G' en := fun ⟨ps, es, h1, h2, h3⟩ => ⟨ps, es, s _ _ h1, h2.mono fun _ _ h => h.mono s, h3⟩
/-- the well was drawn from -/
theorem Wld.ex (W : Wld T F G H a b cs st m k) {m' : Nat} (w : Well H' a m') (e : Ex a H H') : Wld T F G H' a b cs st m' k ∧ Stp T.Book.C b [a, b] H G H' G := by
  obtain ⟨dx, t, hb, ist⟩ := id W.bk
  have hab := W.ab
  obtain ⟨xs, ha⟩ := W.well.nf
  refine ⟨⟨Ex.ghost W.sg W.ga e, W.ng, W.ga, W.gb, w, ⟨dx, t, e _ _ hab.symm hb, ist⟩, W.is, W.ok, tabs_ex W.tb e ha (fun ps z => by cases z) (fun c q z => by unfold CodeO at z; cases z)⟩, fun x o n t h => e x o (fun z => n (by simp [z])) h, ⟨Same.refl _, fun x h h' => absurd h h', Ex.ghost W.sg W.ga e⟩, fun dx fs h => ⟨fs, e _ _ hab.symm h⟩⟩
/-- a deed was drawn -/
theorem Wld.deed (W : Wld T F G H a b cs st m k) {m' : Nat} (g : Grow H G H' G') (w : Well H' a m') (e : Ex a H H') : Wld T F (nt G') H' a b cs st m' k ∧ Stp T.Book.C b [a, b] H G H' (nt G') := by
  obtain ⟨dx, t, hb, ist⟩ := id W.bk
  have hab := W.ab
  obtain ⟨xs, ha⟩ := id W.well.nf
  have gn := g.nt W.ng
  refine ⟨⟨gn.le, nt_no _, gn.off ha W.ga fun ps z => (by cases z), gn.off hb W.gb fun ps z => (by cases z), w, ⟨dx, t, e _ _ hab.symm hb, ist.mono gn.same⟩, W.is.mono gn.same, W.ok, tabs_ex W.tb e ha (fun ps z => by cases z) (fun c q z => by unfold CodeO at z; cases z)⟩, fun x o n t h => e x o (fun z => n (by simp [z])) h, gn, fun dx fs h => ⟨fs, e _ _ hab.symm h⟩⟩
/-- a deed done -/
theorem Wld.after {c : Snap} {rest : List Snap} (W : Wld T F G H a b (c :: rest) st m k) {d : Deed} (od : DeedOk c d) {s' : Addr} {m' : Nat} (fr : FrA a b H H') (tb : Tabs F.TL H') (ng : NoTbl G') (gr : Grow H G H' G') (is : IsSt G' s' (due (c :: rest) d).2) (bk : IsBook T.Book.C T.Field.C H' G' b ((due (c :: rest) d).2.map snapB)) (dk : DxK T.Book.C b H H') (w : Well H' a m') :
    Wld T F G' H' a b (due (c :: rest) d).2 s' m' (k + 1) ∧ Stp T.Book.C b [a, b] H G H' G' := by
  obtain ⟨xs, ha⟩ := W.well.nf
  obtain ⟨dx, t, hb, _⟩ := W.bk
  exact ⟨⟨gr.le, ng, gr.off ha W.ga fun ps z => (by cases z), gr.off hb W.gb fun ps z => (by cases z), w, bk, is, (due_ok W.ok od).1, tb⟩, ⟨fun x o n t h => fr x o (fun z => n (by simp [z])) (fun z => n (by simp [z])) t h, gr, dk⟩⟩
/-- how many draws lie within, by the depth -/
def sub : Nat → Nat
  | 0 => 0
  | n + 1 => 45 + 2 * sub n
def cost (n : Nat) : Nat := 45 + 2 * sub n
end
end Spf
end
section
set_option maxHeartbeats 4000000
/-! A trial's action: the nested def. -/
namespace Spf
open PySem PySem.Spec PyProof.Rows L2 L2H HotX LamX NdefX
abbrev sAct : Stmt := (defBody (top 83)).getD 1 (.Pass ⟨0, 0, 0, 0⟩)
abbrev vAct : List Str := ["_law_mine", "_law_well_here", "_law_entries_here", "_law_rows", "_law_fine", "_law_deep", "_law_fate", "_law_turn", "_law_later", "_law_right_here", "_law_behind_here", "_law_lost"]
abbrev pAct : List Str := ["_law_mine"]
abbrev fAct : List Str := ["_law_well_here", "_law_entries_here", "_law_rows", "_law_fine", "_law_deep", "_law_fate"]
theorem nsAct : NScope vAct pAct fAct (C8.fnScope sAct) := nscope_by (by decide +kernel)
section
variable {P : Program} {w : World} {K : PySem.W.Frag} {mg : Str → Option Value} {base : Heap}
/-- what a nested trial does -/
def spNested (T : TxtA K mg) (F : TabFacts K mg base T) (n : Nat) : Sp := fun vs H Q _ => ∃ (G : Hp) (a b en st : Addr) (cs : List Snap) (m k : Nat), vs = [.ref a, .ref b, .ref en, .ref st, .int n] ∧ Wld T F G H a b cs st m k ∧ Ents G en ∧ m + cost n ≤ 2 ^ 40 ∧ k + cost n ≤ 960 ∧
  ∀ (t s' : Addr) (lost : Bool) (cs' : List Snap) (G' H' : Hp), H' t = some (.tup [.bl true, .ref s', .bl lost]) → Wld T F G' H' a b cs' s' (m + cost n) (k + cost n) → Stp T.Book.C b [a, b] H G H' G' → Q (.ref t) H'
/-- what stands while the action runs -/
structure AInv (T : TxtA K mg) (F : TabFacts K mg base T) (H0 G0 : Hp) (a b r fi : Addr) (m k i x : Nat) (G H : Hp) (cs : List Snap) (st : Addr) : Prop where
  W : Wld T F G H a b cs st (m + x) (k + x)
  S : Stp T.Book.C b [a, b, r, fi] H0 G0 H G
  hr : ∃ xs : List V, xs.length ≤ i ∧ H r = some (.lst (xs ++ [.ref st]))
  hf : ∃ j : Nat, j ≤ i ∧ H fi = some (.lst (List.replicate j (.bl true)))
/-- how the two lists lie -/
structure ALay (H0 G0 : Hp) (a b r fi : Addr) : Prop where
  r0 : ∃ xs, H0 r = some (.lst xs)
  f0 : ∃ xs, H0 fi = some (.lst xs)
  gr : G0 r = none
  gf : G0 fi = none
  ra : r ≠ a
  fa : fi ≠ a
  rb : r ≠ b
  fb : fi ≠ b
  rf : r ≠ fi
def spAct (T : TxtA K mg) (F : TabFacts K mg base T) (n : Nat) (ws : List (Option V)) : Sp := fun vs H Q E => ∃ (G : Hp) (a b en r fi st : Addr) (cs : List Snap) (m k fate : Nat), ws = [some (.ref a), some (.ref en), some (.ref r), some (.ref fi), some (.int n), some (.int fate)] ∧ vs = [.ref b] ∧ Wld T F G H a b cs st m k ∧ Ents G en ∧ ALay H G a b r fi ∧
  H r = some (.lst [.ref st]) ∧ H fi = some (.lst []) ∧ m + 2 * (22 + sub n) ≤ 2 ^ 40 ∧ k + 2 * (22 + sub n) ≤ 960 ∧
  ∀ (G' H' : Hp) (cs' : List Snap) (s' : Addr), AInv T F H G a b r fi m k 4 (2 * (22 + sub n)) G' H' cs' s' → Q (.int n) H' ∧ ∀ d, E (.type "KeyError") d H'
variable {T : TxtA K mg} {F : TabFacts K mg base T} {H0 G0 G H G' H' : Hp} {a b r fi st s' : Addr} {cs cs' : List Snap} {m k i x x' : Nat}
theorem AInv.mono (I : AInv T F H0 G0 a b r fi m k i x G H cs st) {i' x' : Nat} (h1 : i ≤ i') (h2 : x ≤ x') : AInv T F H0 G0 a b r fi m k i' x' G H cs st := by
  obtain ⟨xs, l1, e1⟩ := I.hr
  obtain ⟨j, l2, e2⟩ := I.hf
  exact ⟨I.W.mono (by omega) (by omega), I.S, ⟨xs, by omega, e1⟩, ⟨j, by omega, e2⟩⟩
theorem AInv.held (I : AInv T F H0 G0 a b r fi m k i x G H cs st) : Held4 [a, b, r, fi] H := by
  obtain ⟨xs, l1, e1⟩ := I.hr
  obtain ⟨j, l2, e2⟩ := I.hf
  intro y hy
  simp only [List.mem_cons, List.not_mem_nil, or_false] at hy
  rcases hy with rfl | rfl | rfl | rfl
  · exact I.W.nf.1
  · exact I.W.nf.2
  · exact fresh_not e1 fun ps z => by cases z
  · exact fresh_not e2 fun ps z => by cases z
/-- what stands in the midst of a turn: the lists are not yet told of the new state -/
structure AMid (T : TxtA K mg) (F : TabFacts K mg base T) (H0 G0 : Hp) (a b r fi : Addr) (m k i x : Nat) (G H : Hp) (cs : List Snap) (st s0 : Addr) : Prop where
  W : Wld T F G H a b cs st (m + x) (k + x)
  S : Stp T.Book.C b [a, b, r, fi] H0 G0 H G
  hr : ∃ xs : List V, xs.length ≤ i ∧ H r = some (.lst (xs ++ [.ref s0]))
  hf : ∃ j : Nat, j ≤ i ∧ H fi = some (.lst (List.replicate j (.bl true)))
theorem AMid.held {s0 : Addr} (I : AMid T F H0 G0 a b r fi m k i x G H cs st s0) : Held4 [a, b, r, fi] H := by
  obtain ⟨xs, l1, e1⟩ := I.hr
  obtain ⟨j, l2, e2⟩ := I.hf
  intro y hy
  simp only [List.mem_cons, List.not_mem_nil, or_false] at hy
  rcases hy with rfl | rfl | rfl | rfl
  · exact I.W.nf.1
  · exact I.W.nf.2
  · exact fresh_not e1 fun ps z => by cases z
  · exact fresh_not e2 fun ps z => by cases z
theorem AInv.mid (I : AInv T F H0 G0 a b r fi m k i x G H cs st) : AMid T F H0 G0 a b r fi m k i x G H cs st st := ⟨I.W, I.S, I.hr, I.hf⟩
/-- a step of the book and the well -/
theorem AMid.step {s0 : Addr} (L : ALay H0 G0 a b r fi) (I : AMid T F H0 G0 a b r fi m k i x G H cs st s0) (W' : Wld T F G' H' a b cs' s' (m + x') (k + x')) (S' : Stp T.Book.C b [a, b] H G H' G') : AMid T F H0 G0 a b r fi m k i x' G' H' cs' s' s0 := by
  obtain ⟨xs, l1, e1⟩ := I.hr
  obtain ⟨j, l2, e2⟩ := I.hf
  exact ⟨W', I.S.trans (S'.wide fun y hy => by simp only [List.mem_cons, List.not_mem_nil, or_false] at hy ⊢; rcases hy with h | h <;> simp [h]) (fun y hy => by
    simp only [List.mem_cons, List.not_mem_nil, or_false] at hy
    rcases hy with rfl | rfl | rfl | rfl
    · exact I.W.nf.1
    · exact I.W.nf.2
    · exact fresh_not e1 fun ps z => (by cases z)
    · exact fresh_not e2 fun ps z => (by cases z)), ⟨xs, l1, S'.fr _ _ (by simp [L.ra, L.rb]) (fun ps z => by cases z) e1⟩, ⟨j, l2, S'.fr _ _ (by simp [L.fa, L.fb]) (fun ps z => by cases z) e2⟩⟩
/-- both lists are told of the new state -/
theorem AMid.told {s0 : Addr} {xs : List V} {j : Nat} {y z : V} (L : ALay H0 G0 a b r fi) (I : AMid T F H0 G0 a b r fi m k i x G H cs st s0) (hr : H r = some (.lst xs)) (hl : xs.length ≤ i + 1) (hf : H fi = some (.lst (List.replicate j (.bl true)))) (hj : j ≤ i) (hy : y = .bl true) (hz : z = .ref st) :
    AInv T F H0 G0 a b r fi m k (i + 1) x G (upd (upd H fi (.lst (List.replicate j (.bl true) ++ [y]))) r (.lst (xs ++ [z]))) cs st := by
  subst hy hz
  obtain ⟨ys, hr0⟩ := L.r0
  obtain ⟨zs, hf0⟩ := L.f0
  have gr : G r = none := I.S.gr.off hr0 L.gr fun ps z => by cases z
  have gf : G fi = none := I.S.gr.off hf0 L.gf fun ps z => by cases z
  have W1 := I.W.put (o := .lst (List.replicate j (.bl true) ++ [.bl true])) hf gf L.fa
  have hr1 : upd H fi (.lst (List.replicate j (.bl true) ++ [.bl true])) r = some (.lst xs) := by rw [upd_ne L.rf]; exact hr
  have W2 := W1.put (o := .lst (xs ++ [.ref st])) hr1 gr L.ra
  have S1 := I.S.put (x := fi) (o := .lst (List.replicate j (.bl true) ++ [.bl true])) (by simp) gf L.fb
  have S2 := S1.put (x := r) (o := .lst (xs ++ [.ref st])) (by simp) gr L.rb
  exact ⟨W2, S2, ⟨xs, hl, upd_same⟩, ⟨j + 1, by omega, by rw [upd_ne L.rf.symm, upd_same, List.replicate_succ']⟩⟩
theorem okAct (T : TxtA K mg) (F : TabFacts K mg base T) (Kw : KwFacts T) (n : Nat) {lv : Nat} {spR : Sp} (Fr : FnX P w K mg base CX0 true false lv T.l_nested.f T.l_nested.fd ["_law_well_here", "_law_shelf", "_law_entries_here", "_law_state", "_law_deep"] spR) (hlv : 17 ≤ lv)
    (hR : ∀ j, n = j + 1 → ∀ vs H Q E, spNested T F j vs H Q E → spR vs H Q E) (q : Str) (cl : List (Str × Addr)) (f c' : Addr) (ws : List (Option V)) (p : Addr × Obj) : NOkX P w K mg base true (lv + 1) f (NF.of sAct "_law_act" q cl c') fAct ws (spAct T F n ws) p := by
  refine ⟨fun A outer s H us vs Q E hr e0 hf hc C rr sp => ?_⟩
  obtain ⟨G, a, b, en, r, fi, st, cs, m, k, fate, rfl, rfl, W, En, L, hr0, hf0, hm, hk, fin⟩ := sp
  refine run_nX nsAct (fun doc pm ctv us hl => ?_) hr e0 hf hc C rr rfl fun c => ?_
  · match us, hl with
    | [u], _ => rfl
  have c17 := c.mono hlv
  refine ⟨_, pss_cons (ps_forX (passes_of rfl) c.md (pi_range1X rfl T.range (pa_cons pe_int pa_nil)) (pg_name (i := 7) nsAct.nd rfl (Or.inl rfl))
    (pss_cons (ps_set (i := 8) nsAct.nd rfl (Or.inl rfl) (pe_callX (okLBehind T F Kw) c17 (fun z => z) rfl T.l_behind.mg T.l_behind.kp T.l_behind.b at00 (pa_cons (pv 1) (pa_cons (pv 0) (pa_cons (pe_ix ix_list (pv 3) (pe_un un_neg pe_int) (fun _ _ => rfl)) (pa_cons (pe_callX (okLDeed T) (c17.mono (by decide)) nogd rfl T.l_deed.mg T.l_deed.kp T.l_deed.b at00 (pa_cons (pv 1) (pa_cons (pv 2) (pa_cons (pe_ix ix_list (pv 3) (pe_un un_neg pe_int) (fun _ _ => rfl)) pa_nil)))) pa_nil))))))
    (pss_cons (ps_expr (pe_bm PySem.F.plainAttrs_list PySem.F.slot_list_append PySem.F.type_list_append mt_append (pv 4) (pa_cons (pe_cmpR op_notN (pv 8) pe_non (nomark _)) pa_nil)))
    (pss_cons (ps_expr (pe_bm PySem.F.plainAttrs_list PySem.F.slot_list_append PySem.F.type_list_append mt_append (pv 3) (pa_cons (pe_ifExp (pt_cmpR op_notN (pv 8) pe_non (nomark _)) (pv 8) (pe_ix ix_list (pv 3) (pe_un un_neg pe_int) (fun _ _ => rfl))) pa_nil)))
    (pss_one (ps_if (PW.pt (pw_and (pt_cmpR op_gt (pv 5) pe_int (nomark _)) (pw_and1 (pt_cmpR op_eq (pe_callX (okLDip T) (c17.mono (by decide)) nogd rfl T.l_dip.mg T.l_dip.kp T.l_dip.b at00 (pa_cons (pv 1) (pa_cons pe_int pa_nil))) pe_int (nomark _)))))
      (pss_cons (ps_asg (pe_callX Fr c (fun z => z) rfl T.l_nested.mg T.l_nested.kp T.l_nested.b at00 (pa_cons (pv 1) (pa_cons (pv 0) (pa_cons (pv 2) (pa_cons (pe_ix ix_list (pv 3) (pe_un un_neg pe_int) (fun _ _ => rfl)) (pa_cons (pe_op op_sub (pv 5) pe_int) pa_nil)))))) (pg_tupX c.md (pgs_cons (pg_name (i := 9) nsAct.nd rfl (Or.inl rfl)) (pgs_cons (pg_name (i := 10) nsAct.nd rfl (Or.inl rfl)) (pgs_cons (pg_name (i := 11) nsAct.nd rfl (Or.inl rfl)) pgs_nil)))))
      (pss_cons (ps_expr (pe_bm PySem.F.plainAttrs_list PySem.F.slot_list_append PySem.F.type_list_append mt_append (pv 4) (pa_cons (pv 9) pa_nil)))
      (pss_cons (ps_expr (pe_bm PySem.F.plainAttrs_list PySem.F.slot_list_append PySem.F.type_list_append mt_append (pv 3) (pa_cons (pv 10) pa_nil)))
      (pss_one (ps_if (PW.pt (pw_and (pt_val (pv 11)) (pw_and1 (pt_cmpR op_eq (pv 6) pe_int (nomark _))))) (pss_one (L2N.ps_raise (W := fun cls d _ H => E cls d H) rfl (L2N.takes_of rfl rfl rfl rfl) (pmk_excN excClass_KeyError rfl rfl T.KeyError (by decide +kernel) (pa_cons (pv 5) pa_nil)))) pss_nil)))))
      pss_nil))))))
    (pss_cons (ps_if (pt_cmpR op_eq (pv 6) pe_int (nomark _)) (pss_one (L2N.ps_raise (W := fun cls d _ H => E cls d H) rfl (L2N.takes_of rfl rfl rfl rfl) (pmk_excN excClass_KeyError rfl rfl T.KeyError (by decide +kernel) (pa_cons (pv 5) pa_nil)))) pss_nil)
    (pss_one (ps_ret (pv 5)))), ?_⟩
  have sN : ∀ j : Nat, ((j + 1 : Nat) : Int) - 1 = (j : Nat) := fun j => by omega
  refine ⟨2, rfl, by decide, by decide, for_range (n := 2) (fun i σ H' => ∃ (G' : Hp) (cs' : List Snap) (s' : Addr) (u1 u2 u3 u4 u5 : Option V), AInv T F H G a b r fi m k (2 * i) (i * (22 + sub n)) G' H' cs' s' ∧ σ = [some (.ref b), some (.ref a), some (.ref en), some (.ref r), some (.ref fi), some (.int n), some (.int fate), u1, u2, u3, u4, u5]) ⟨G, cs, st, none, none, none, none, none, ⟨W.mono (Nat.le_add_right _ _) (Nat.le_add_right _ _), Stp.refl W.sg, ⟨[], Nat.le_refl _, hr0⟩, ⟨0, Nat.le_refl _, hf0⟩⟩, rfl⟩ ?_ ?_⟩
  · rintro i σ H1 hi ⟨G1, cs1, s1, u1, u2, u3, u4, u5, I1, rfl⟩
    have hi2 : i ≤ 1 := by omega
    have hmul : (i + 1) * (22 + sub n) = i * (22 + sub n) + (22 + sub n) := Nat.succ_mul _ _
    have hmul2 : (i + 1) * (22 + sub n) ≤ 2 * (22 + sub n) := Nat.mul_le_mul_right _ (by omega)
    have M1 := I1.mid
    obtain ⟨xs, hxl, hr1⟩ := I1.hr
    obtain ⟨j1, hjl, hf1⟩ := I1.hf
    refine ⟨_, rfl, _, rfl, _, rfl, 1, rfl, r, _, -1, _, rfl, rfl, SqL.of hr1, atI_last _ _, ?_⟩
    refine ⟨_, rfl, _, rfl, _, rfl, 1, rfl, r, _, -1, _, rfl, rfl, SqL.of hr1, atI_last _ _, ?_⟩
    obtain ⟨eps, ees, en1, en2, en3⟩ := En.mono I1.S.gr.same
    obtain ⟨c0, rest, rfl⟩ : ∃ c0 rest, cs1 = c0 :: rest := by
      cases cs1 with
      | nil => exact I1.W.is.elim
      | cons c0 rest => exact ⟨c0, rest, rfl⟩
    have kc := I1.W.ok.ok c0 List.mem_cons_self
    refine ⟨G1, a, en, s1, eps, ees, c0, rest, m + i * (22 + sub n), rfl, I1.W.sg, I1.W.ga, en1, en2, en3, I1.W.is, kc.keys, by have := kc.few; omega, by have := kc.hopes; omega, I1.W.well, by omega, fun d dd H2 G2' g2 id2' od2 w2 e2 => ?_⟩
    obtain ⟨W2, S2⟩ := I1.W.deed g2 w2 e2
    have id2 := id2'.nt
    generalize nt G2' = G2 at W2 S2 id2
    have M2 : AMid T F H G a b r fi m k (2 * i) (i * (22 + sub n) + 20) G2 H2 (c0 :: rest) s1 s1 := M1.step L (W2.mono (by omega) (by omega)) S2
    refine ⟨G2, a, b, s1, d, c0, rest, dd, m + i * (22 + sub n) + 20, rfl, W2.sg, W2.ng, W2.ga, W2.gb, W2.well, by omega, W2.bk, W2.is, W2.ok.mono (by omega), id2, od2, W2.tb, fun s3 H3 G3 fr3 tb3 ng3 gr3 is3 bk3 dk3 w3 => ?_⟩
    obtain ⟨W3, S3⟩ := W2.after od2 fr3 tb3 ng3 gr3 is3 bk3 dk3 w3
    have M3 : AMid T F H G a b r fi m k (2 * i) (i * (22 + sub n) + 21) G3 H3 _ s3 s1 := M2.step L (W3.mono (by omega) (by omega)) S3
    have hr3 : H3 r = some (.lst (xs ++ [.ref s1])) := S3.fr _ _ (by simp [L.ra, L.rb]) (fun ps z => by cases z) (S2.fr _ _ (by simp [L.ra, L.rb]) (fun ps z => by cases z) hr1)
    have hf3 : H3 fi = some (.lst (List.replicate j1 (.bl true))) := S3.fr _ _ (by simp [L.fa, L.fb]) (fun ps z => by cases z) (S2.fr _ _ (by simp [L.fa, L.fb]) (fun ps z => by cases z) hf1)
    generalize (due (c0 :: rest) dd).2 = cs3 at M3 W3
    refine ⟨_, rfl, .inl ⟨rfl, _, SqL.of hf3⟩, _, rfl, rfl, fi, _, _, rfl, rfl, hf3, szLt (by rw [List.length_replicate]; omega), ?_⟩
    refine ⟨_, rfl, .inl ⟨rfl, _, SqL.of (show upd H3 fi _ r = some (.lst (xs ++ [.ref s1])) from by rw [upd_ne L.rf]; exact hr3)⟩, _, rfl, rfl, _, rfl, ifT (by simp) ⟨_, rfl, r, _, _, rfl, rfl, (show upd H3 fi _ r = some (.lst (xs ++ [.ref s1])) from by rw [upd_ne L.rf]; exact hr3), szLt (by rw [List.length_append, List.length_singleton]; omega), ?_⟩⟩
    have I4 := M3.told (y := .bl (!decide (V.ref s3 = V.non))) (z := .ref s3) L hr3 (by rw [List.length_append, List.length_singleton]; omega) hf3 hjl (by simp) rfl
    generalize upd (upd H3 fi (.lst (List.replicate j1 (.bl true) ++ [.bl (!decide (V.ref s3 = V.non))]))) r (.lst (xs ++ [.ref s1] ++ [.ref s3])) = H4 at I4 ⊢
    refine ⟨_, rfl, _, _, rfl, rfl, _, rfl, ite2 (fun z => ?_) (fun z => ?_)⟩
    · obtain ⟨j, rfl⟩ : ∃ j, n = j + 1 := ⟨n - 1, by have := of_decide_eq_true z; omega⟩
      have hsub : sub (j + 1) = cost j := rfl
      refine ⟨_, rfl, a, _, _, rfl, I4.W.well, by omega, by decide, by decide, fun kd H5 hkd w5 e5 => ⟨rfl, _, rfl, ?_⟩⟩
      obtain ⟨W5, S5⟩ := I4.W.ex w5 e5
      have M5 : AMid T F H G a b r fi m k (2 * i + 1) (i * (22 + sub (j + 1)) + 22) G3 H5 cs3 s3 s3 := I4.mid.step L (W5.mono (by omega) (by omega)) S5
      refine ite2 (fun z2 => ?_) (fun z2 => ?_)
      · obtain ⟨xs5, hxl5, hr5⟩ := M5.hr
        obtain ⟨j5, hjl5, hf5⟩ := M5.hf
        refine ⟨_, rfl, _, rfl, _, rfl, _, rfl, 1, rfl, r, _, -1, _, rfl, rfl, SqL.of hr5, atI_last _ _, _, rfl, _, _, rfl, rfl, ?_⟩
        show spR [.ref a, .ref b, .ref en, .ref s3, .int (((j + 1 : Nat) : Int) - 1)] H5 _ _
        rw [sN]
        refine hR j rfl _ _ _ _ ⟨G3, a, b, en, s3, cs3, _, _, rfl, M5.W, En.mono M5.S.gr.same, by omega, by omega, fun t s6 lost cs6 G6 H6 ht W6 S6 => ?_⟩
        have M6 : AMid T F H G a b r fi m k (2 * i + 1) ((i + 1) * (22 + sub (j + 1))) G6 H6 cs6 s6 s3 := M5.step L (W6.mono (by omega) (by omega)) S6
        have hr6 : H6 r = some (.lst (xs5 ++ [.ref s3])) := S6.fr _ _ (by simp [L.ra, L.rb]) (fun ps z => by cases z) hr5
        have hf6 : H6 fi = some (.lst (List.replicate j5 (.bl true))) := S6.fr _ _ (by simp [L.fa, L.fb]) (fun ps z => by cases z) hf5
        refine ⟨t, _, rfl, SqT.of ht, rfl, _, _, rfl, _, _, rfl, _, _, rfl, rfl, ?_⟩
        refine ⟨_, rfl, .inl ⟨rfl, _, SqL.of hf6⟩, _, rfl, fi, _, _, rfl, rfl, hf6, szLt (by rw [List.length_replicate]; omega), ?_⟩
        refine ⟨_, rfl, .inl ⟨rfl, _, SqL.of (show upd H6 fi _ r = some (.lst (xs5 ++ [.ref s3])) from by rw [upd_ne L.rf]; exact hr6)⟩, _, rfl, r, _, _, rfl, rfl, (show upd H6 fi _ r = some (.lst (xs5 ++ [.ref s3])) from by rw [upd_ne L.rf]; exact hr6), szLt (by rw [List.length_append, List.length_singleton]; omega), ?_⟩
        have I7 := M6.told (y := .bl true) (z := .ref s6) L hr6 (by rw [List.length_append, List.length_singleton]; omega) hf6 hjl5 rfl rfl
        generalize upd (upd H6 fi (.lst (List.replicate j5 (.bl true) ++ [.bl true]))) r (.lst (xs5 ++ [.ref s3] ++ [.ref s6])) = H7 at I7 ⊢
        refine ⟨_, rfl, lost, rfl, ?_⟩
        cases lost with
        | false => exact ifF rfl ⟨G6, cs6, s6, _, _, _, _, _, I7.mono (by omega) (Nat.le_refl _), rfl⟩
        | true =>
          refine ifT rfl ⟨_, rfl, rfl, _, rfl, ite2 (fun z3 => ?_) (fun z3 => ?_)⟩
          · exact ⟨_, rfl, szL (by show 1 ≤ 1000000; decide), fun d => (fin _ _ _ _ (I7.mono (by omega) hmul2)).2 d⟩
          · exact ⟨G6, cs6, s6, _, _, _, _, _, I7.mono (by omega) (Nat.le_refl _), rfl⟩
      · exact ⟨G3, cs3, s3, _, _, _, _, _, AInv.mono ⟨M5.W, M5.S, M5.hr, M5.hf⟩ (by omega) (by omega), rfl⟩
    · exact ⟨G3, cs3, s3, _, _, _, _, _, I4.mono (by omega) (by omega), rfl⟩
  · rintro σ H1 ⟨G1, cs1, s1, u1, u2, u3, u4, u5, I1, rfl⟩
    have I2 := I1.mono (show 2 * 2 ≤ 4 by decide) (Nat.le_refl _)
    refine ⟨_, rfl, rfl, _, rfl, ite2 (fun z => ?_) (fun z => ?_)⟩
    · exact ⟨_, rfl, szL (by show 1 ≤ 1000000; decide), fun d => (fin _ _ _ _ I2).2 d⟩
    · exact ⟨_, rfl, (fin _ _ _ _ I2).1⟩
end
end Spf
end
section
set_option maxHeartbeats 4000000
/-! A trial with trials within it. -/
namespace Spf
open PySem PySem.Spec PyProof.Rows L2 L2H HotX LamX NdefX
section
variable {P : Program} {w : World} {K : PySem.W.Frag} {mg : Str → Option Value} {base : Heap}
theorem dp_reps {K : PySem.W.Frag} {H : Hp} (k : Bool) : ∀ j : Nat, DpAll K H (List.replicate j (.bl k)) (List.replicate j (.bool k))
  | 0 => .nil
  | j + 1 => by rw [List.replicate_succ, List.replicate_succ]; exact .cons (.bl k) (dp_reps k j)
theorem lay_reps (k : Bool) : ∀ j : Nat, PyData.canLayAll0 (List.replicate j (PyData.bool k)) = true
  | 0 => by simp [PyData.canLayAll0]
  | j + 1 => by rw [List.replicate_succ]; simp [PyData.canLayAll0, PyData.canLay0, lay_reps k j]
theorem depth_reps (k : Bool) : ∀ j : Nat, PyData.depthAll (List.replicate j (PyData.bool k)) = 0
  | 0 => by simp [PyData.depthAll]
  | j + 1 => by rw [List.replicate_succ]; simp [PyData.depthAll, PyData.depth, depth_reps k j]
theorem eqv_reps (k : Bool) : ∀ j : Nat, PyData.eqvAll (List.replicate j (PyData.bool k)) (List.replicate j (PyData.bool k)) = true
  | 0 => by simp [PyData.eqvAll]
  | j + 1 => by rw [List.replicate_succ]; simp [PyData.eqvAll, PyData.eqv, eqv_reps k j]
theorem rEq_reps {K : PySem.W.Frag} {H : Hp} {a b : Addr} {Q : VK} {k : Bool} {j : Nat} (ha : SqL K H a (List.replicate j (.bl k))) (hb : SqL K H b (List.replicate j (.bl k))) (q : Q (.bl true) H) : rEqD K (.ref a) (.ref b) H Q :=
  have sh : SeqAt.shaped (.list (List.replicate j (PyData.bool k))) = true := by simp [SeqAt.shaped, PyData.canLay0, PyData.depth, lay_reps, depth_reps]
  ⟨_, _, .lst ha (dp_reps k j), .lst hb (dp_reps k j), sh, sh, by rw [PyData.eqv, eqv_reps]; exact q⟩
theorem op_eqDK {X : Cx} (K : PySem.W.Frag) (hu : X.A.units + 64 < cLine) (h : X.K = K := by rfl) : OpR X (compareOp .Eq) (rEqD K) := h ▸ op_eqD hu
def TLN {T : TxtA K mg} (F : TabFacts K mg base T) : List NTab := F.TL.map fun p => (p.1, fun _ _ => p.2)
theorem tln_to {T : TxtA K mg} {F : TabFacts K mg base T} {H : Hp} (h : Tabs F.TL H) : TabsN (TLN F) H := fun p hp => by
  obtain ⟨x, hx, rfl⟩ := List.mem_map.mp hp
  exact TabN.of (h x hx)
theorem tln_of {T : TxtA K mg} {F : TabFacts K mg base T} {H : Hp} (h : TabsN (TLN F) H) : Tabs F.TL H := fun p hp => TabN.to (h _ (List.mem_map.mpr ⟨p, hp, rfl⟩))
theorem tln_mem {T : TxtA K mg} (F : TabFacts K mg base T) : (F.PN, fun (_ _ : Nat) => lamQ "_law_nested" "_law_act") ∈ TLN F := List.mem_map.mpr ⟨_, F.memN, rfl⟩
theorem tln_un {T : TxtA K mg} (F : TabFacts K mg base T) : ∀ p ∈ TLN F, p.1 = F.PN → p.2 = fun (_ _ : Nat) => lamQ "_law_nested" "_law_act" := fun p hp e => by
  obtain ⟨x, hx, rfl⟩ := List.mem_map.mp hp
  rw [F.unN x hx e]
theorem eqv_rep (k : Bool) (j : Nat) : PyData.eqv (.list (List.replicate j (PyData.bool k))) (.list (List.replicate j (PyData.bool k))) = true := by rw [PyData.eqv, eqv_reps]
theorem sh_rep (k : Bool) (j : Nat) : SeqAt.shaped (.list (List.replicate j (PyData.bool k))) = true := by simp [SeqAt.shaped, PyData.canLay0, PyData.depth, lay_reps, depth_reps]
section
variable {T : TxtA K mg} {F : TabFacts K mg base T} {G H G' H' : Hp} {a b st : Addr} {cs : List Snap} {m k : Nat}
theorem Wld.ext (W : Wld T F G H a b cs st m k) (e : ExtN H H') (tb : Tabs F.TL H') : Wld T F G H' a b cs st m k := by
  obtain ⟨dx, t, hb, ist⟩ := W.bk
  obtain ⟨x0, x1, x2, ha, r⟩ := W.well
  exact ⟨ghostN W.sg W.ng e, W.ng, W.ga, W.gb, ⟨x0, x1, x2, e _ _ ha fun ps z => (by cases z), r⟩, ⟨dx, t, e _ _ hb fun ps z => (by cases z), ist⟩, W.is, W.ok, tb⟩
theorem Wld.exi (W : Wld T F G H a b cs st m k) {x C dx : Addr} {fs : List (Str × V)} (h : H x = some (.ins C dx fs)) (hg : G x = none) (nb : x ≠ b) (e : Ex x H H') : Wld T F G H' a b cs st m k := by
  obtain ⟨db, t, hb, ist⟩ := W.bk
  obtain ⟨x0, x1, x2, ha, r⟩ := W.well
  have na : x ≠ a := fun z => by rw [z, ha] at h; cases h
  exact ⟨fun y o hy => e y o (ne_of_none hy hg) (W.sg _ _ hy), W.ng, W.ga, W.gb, ⟨x0, x1, x2, e _ _ na.symm ha, r⟩, ⟨db, t, e _ _ nb.symm hb, ist⟩, W.is, W.ok, tabs_ex W.tb e h (fun ps z => by cases z) fun c q z => by unfold CodeO at z; cases z⟩
/-- the book is put back -/
theorem Wld.back (W : Wld T F G H a b cs st m k) {x C dx db t0 st' : Addr} {cs' : List Snap} {fs : List (Str × V)} (h : H x = some (.ins C dx fs)) (hg : G x = none) (e : ∀ c o, c ≠ x → c ≠ b → H c = some o → H' c = some o) (hb : H' b = some (.ins T.Book.C db [("states", .ref t0)])) (ist : IsStates T.Field.C G t0 (cs'.map snapB)) (is : IsSt G st' cs') (ok : StOk k cs') : Wld T F G H' a b cs' st' m k := by
  obtain ⟨db0, t, hb0, _⟩ := W.bk
  obtain ⟨x0, x1, x2, ha, r⟩ := id W.well
  have na : x ≠ a := fun z => by rw [z, ha] at h; cases h
  refine ⟨fun y o hy => e y o (ne_of_none hy hg) (ne_of_none hy W.gb) (W.sg _ _ hy), W.ng, W.ga, W.gb, ⟨x0, x1, x2, e _ _ na.symm W.ab ha, r⟩, ⟨db, t0, hb, ist⟩, is, ok, fun p hp => ?_⟩
  have nx : ∀ {y : Addr} {o : HO}, H y = some o → (∀ C dx fs, o ≠ .ins C dx fs) → H' y = some o := fun {y o} hy n => e y o (fun z => by rw [z, h] at hy; cases hy; exact n _ _ _ rfl) (fun z => by rw [z, hb0] at hy; cases hy; exact n _ _ _ rfl) hy
  obtain ⟨ps, z1, z2, z3⟩ := W.tb p hp
  refine ⟨ps, nx z1 (fun _ _ _ z => by cases z), z2, fun pos cv z => ?_⟩
  obtain ⟨c', z4, z5⟩ := z3 pos cv z
  exact ⟨c', z4, nx z5 (fun _ _ _ z => by unfold CodeO at z; cases z)⟩
end
abbrev vLNested : List Str := ["_law_well_here", "_law_shelf", "_law_entries_here", "_law_state", "_law_deep", "_law_rows", "_law_fine", "_law_fate", "_law_act", "_law_told_here"]
abbrev pLNested : List Str := ["_law_well_here", "_law_shelf", "_law_entries_here", "_law_state", "_law_deep"]
theorem scLNested : FnScope vLNested pLNested (defScope (top 83)) := ⟨rfl, rfl, rfl, by decide +kernel, rfl, by decide +kernel, by decide +kernel⟩
theorem okLNestedStep (T : TxtA K mg) (F : TabFacts K mg base T) (Kw : KwFacts T) (n : Nat) {lv : Nat} {spR : Sp} (Fr : FnX P w K mg base CX0 true false lv T.l_nested.f T.l_nested.fd pLNested spR) (hlv : 17 ≤ lv)
    (hR : ∀ j, n = j + 1 → ∀ vs H Q E, spNested T F j vs H Q E → spR vs H Q E) : FnX P w K mg base CX0 true false (lv + 3) T.l_nested.f T.l_nested.fd pLNested (spNested T F n) := by
  refine funXc (k := lv + 2) T.l_nested.F scLNested (fun vs H Q E ⟨G, a, b, en, st, cs, m, k, e, _⟩ => e ▸ rfl) fun cdv A outer s H vs Q E p hcd c ⟨G, a, b, en, st, cs, m, k, e, W, En, hm, hk, q⟩ => ?_
  subst e
  have hc : cdv = .ref F.cN := by rw [← hcd]; exact F.codeN
  refine ⟨_, pss_cons (ps_asg (pe_tup (pa_cons (pe_lst (pa_cons (pv 3) pa_nil)) (pa_cons (pe_lst pa_nil) (pa_cons (pe_callX (okLDip T) (c.mono (by omega)) nogd rfl T.l_dip.mg T.l_dip.kp T.l_dip.b at00 (pa_cons (pv 0) (pa_cons pe_int pa_nil))) pa_nil))))
      (pg_tupX c.md (pgs_cons (pg_name (i := 5) scLNested.nd rfl (Or.inr rfl)) (pgs_cons (pg_name (i := 6) scLNested.nd rfl (Or.inr rfl)) (pgs_cons (pg_name (i := 7) scLNested.nd rfl (Or.inr rfl)) pgs_nil)))))
    (pss_cons (ps_ndefS (st := sAct) (T := TLN F) (i := 8) rfl F.tabN hc (tln_mem F) rfl (tln_un F) (ndef_free (sc := defScope (top 83)) (fr := fAct) (by decide +kernel)) rfl rfl rfl scLNested.nd rfl (Or.inl rfl) (Or.inr rfl))
    (pss_cons (L2N.ps_try_many (Wout := fun _ _ _ _ => False) rfl rfl (fun u s' ⟨a, B, sI, pins, σ, H, cls, d, e, I, nb, up, sky, na, os, ag, w⟩ => False.elim w)
        (fun W pn xe tk _ => pss_one (ps_set (i := 9) scLNested.nd rfl (Or.inl rfl) (pe_methF (gg := true) (k := lv + 1) (i := 8) (mk := NF.of sAct "_law_act" (lamQ "_law_nested" "_law_act") (cloFrom ((cxX CX0 P w K mg base vLNested "_law_nested" (defScope (top 83)) T.l_nested.f cdv A outer s H E false p).env.cells) (C8.fnScope sAct).names [])) (cl := cloFrom ((cxX CX0 P w K mg base vLNested "_law_nested" (defScope (top 83)) T.l_nested.f cdv A outer s H E false p).env.cells) (C8.fnScope sAct).names []) (js := [0, 2, 5, 6, 4, 7]) (sp := fun _ _ ws => spAct T F n ws) (fr := fAct)
          (pv 1) T.Book.cl T.bTried.mt T.bTried.F T.bTried.b rfl scBookTried (okBookTried T rfl rfl (by omega)) (c.tr pn xe) (fun z => z) (fun f c' ws => okAct T F Kw n Fr hlv hR _ _ f c' ws p) (fun _ => rfl) (fun ok => Caps.made (scope := C8.fnScope sAct) (fr := fAct) ok (ndef_free (sc := defScope (top 83)) (fr := fAct) (by decide +kernel)) (ndef_fr (sc := defScope (top 83)) (by decide +kernel)) rfl) (fun σ => L2N.passAt tk σ) rfl (Or.inl rfl))))
        (.cons (x := "KeyError") (c := .type "KeyError") ⟨rfl, by decide, .inr ⟨T.KeyError, by decide +kernel, by decide⟩⟩ (fun a oe cls d pn hz hf =>
          have cs : Cxt ((cxX CX0 P w K mg base vLNested "_law_nested" (defScope (top 83)) T.l_nested.f cdv A outer s H E false p).suite a ((a, oe) :: pn)) true true 9 (a, oe) :=
            ⟨⟨⟨(c.mono (show 9 ≤ lv + 2 by omega)).rm.room.dp, (c.mono (show 9 ≤ lv + 2 by omega)).rm.room.un⟩, fun z => c.rm.gd z, fun z => Bool.noConfusion z, fun _ => ⟨rfl, hf.choose, hf.choose_spec, hz.2.2 _ hf.choose_spec⟩⟩, rfl, fun _ => List.mem_cons_self⟩
          pss_one (ps_ret (pe_tup (pa_cons (pe_and (pe_cmpR (op_eqDK K cs.rm.units) (pv 6) (pe_op op_rep (pe_lst (pa_cons pe_bl pa_nil)) (pe_callB (call_len_seqK K) (by rfl) T.len PySem.boot_len (pa_cons (pv 6) pa_nil))) (nomark _)) (pe_one (pe_callX (okLFits T) cs (fun z => z) rfl T.l_fits.mg T.l_fits.kp T.l_fits.b at00 (pa_cons (pv 1) (pa_cons (pv 3) pa_nil))))) (pa_cons (pv 3) (pa_cons pe_bl pa_nil)))))) .nil))
    (pss_one (ps_ret (pe_tup (pa_cons (pe_and (pe_cmpR (op_eqD c.rm.units) (pv 6) (pe_op op_rep (pe_lst (pa_cons pe_bl pa_nil)) (pe_callB call_len_seq (by rfl) T.len PySem.boot_len (pa_cons (pv 6) pa_nil))) (nomark _)) (pe_and (pe_cmpR op_eq (pv 9) (pv 4) (nomark _)) (pe_one (pe_callX (okLFits T) (c.mono (by omega)) (fun z => z) rfl T.l_fits.mg T.l_fits.kp T.l_fits.b at00 (pa_cons (pv 1) (pa_cons (pe_ix ix_list (pv 5) (pe_un un_neg pe_int) (fun _ _ => rfl)) pa_nil)))))) (pa_cons (pe_ix ix_list (pv 5) (pe_un un_neg pe_int) (fun _ _ => rfl)) (pa_cons pe_bl pa_nil)))))))), ?_⟩
  have hab := W.ab
  obtain ⟨dx, tb0, hb, ist⟩ := id W.bk
  have hcost : cost n = 45 + 2 * sub n := rfl
  refine ⟨_, rfl, szL (by show 1 ≤ 1000000; decide), fun r hr => ⟨Nat.zero_le _, fun fi hfi => ?_⟩⟩
  have s1 := (Same.refl H).new (o := .lst [.ref st]) hr
  have s2 := s1.new (o := .lst []) hfi
  have hfi0 : H fi = none := s1.free hfi
  have nrf : r ≠ fi := ne_of_none upd_same hfi
  have hr2 : upd (upd H r (.lst [.ref st])) fi (.lst []) r = some (.lst [.ref st]) := by rw [upd_ne nrf, upd_same]
  have hf2 := upd_same (H := upd H r (.lst [.ref st])) (a := fi) (o := .lst [])
  generalize upd (upd H r (.lst [.ref st])) fi (.lst []) = H2 at s2 hr2 hf2 ⊢
  obtain ⟨wx, hwx⟩ := W.well.nf
  have nra : r ≠ a := fun z => by rw [z, hwx] at hr; cases hr
  have nfa : fi ≠ a := fun z => by rw [z, hwx] at hfi0; cases hfi0
  have nrb : r ≠ b := fun z => by rw [z, hb] at hr; cases hr
  have nfb : fi ≠ b := fun z => by rw [z, hb] at hfi0; cases hfi0
  have W2 := W.same s2
  refine ⟨_, rfl, a, _, m, rfl, W2.well, by omega, by decide, by decide, fun fate H3 hfate w3 e3 => ⟨szL (by show 3 ≤ 1000000; decide), fun t0 ht0 => ?_⟩⟩
  obtain ⟨W3, S3⟩ := W2.ex w3 e3
  have s4 := (Same.refl H3).new (o := .tup [.ref r, .ref fi, .int fate]) ht0
  refine ⟨t0, _, rfl, SqT.of upd_same, rfl, _, _, rfl, _, _, rfl, _, _, rfl, rfl, ?_⟩
  generalize upd H3 t0 (.tup [.ref r, .ref fi, .int fate]) = H4 at s4 ⊢
  have W4 := W3.same s4
  have hr4 := s4 _ _ (e3 _ _ nra hr2)
  have hf4 := s4 _ _ (e3 _ _ nfa hf2)
  have f04 : ∀ x o, x ≠ a → H x = some o → H4 x = some o := fun x o n h => s4 _ _ (e3 _ _ n (s2 _ _ h))
  refine ⟨tln_to W4.tb, fun f c' H5 ex5 tb5 hf0 hf5 hc5 => ?_⟩
  have W5 := W4.ext ex5 (tln_of tb5)
  have hb5 : H5 b = some (.ins T.Book.C dx [("states", .ref tb0)]) := ex5 _ _ (f04 _ _ hab.symm hb) fun ps z => by cases z
  refine ⟨_, rfl, b, dx, _, rfl, hb5, nolk (by decide), f, c', rfl, hf5, hc5, b, dx, tb0, rfl, hb5, fun at' da mk' dm H6 s6 ha0 hm0 inT6 => fun Q' E' h1 h2 => ?_⟩
  have W6 := W5.same s6
  have f06 : ∀ x o, x ≠ a → (∀ ps, o ≠ .tbl ps) → H x = some o → H6 x = some o := fun x o n t h => s6 _ _ (ex5 _ _ (f04 x o n h) t)
  have hr6 := s6 _ _ (ex5 _ _ hr4 fun ps z => by cases z)
  have hf6 := s6 _ _ (ex5 _ _ hf4 fun ps z => by cases z)
  have gr0 : G r = none := W.sg.free hr
  have gf0 : G fi = none := W.sg.free hfi0
  have L : ALay H6 G a b r fi := ⟨⟨_, hr6⟩, ⟨_, hf6⟩, gr0, gf0, nra, nfa, nrb, nfb, nrf⟩
  -- the attempt is none of these
  have ga' : G at' = none := W5.sg.free ha0
  have na : at' ≠ a := fun z => by
    obtain ⟨xs, e⟩ := W5.well.nf
    rw [z, e] at ha0; cases ha0
  have nb : at' ≠ b := fun z => by rw [z, hb5] at ha0; cases ha0
  have nar : at' ≠ r := fun z => by rw [z, ex5 _ _ hr4 fun ps z => (by cases z)] at ha0; cases ha0
  have naf : at' ≠ fi := fun z => by rw [z, ex5 _ _ hf4 fun ps z => (by cases z)] at ha0; cases ha0
  have nma : mk' ≠ a := fun z => by
    obtain ⟨xs, e⟩ := W5.well.nf
    rw [z, e] at hm0; cases hm0
  have nmb : mk' ≠ b := fun z => by rw [z, hb5] at hm0; cases hm0
  have nmr : mk' ≠ r := fun z => by rw [z, ex5 _ _ hr4 fun ps z => (by cases z)] at hm0; cases hm0
  have nmf : mk' ≠ fi := fun z => by rw [z, ex5 _ _ hf4 fun ps z => (by cases z)] at hm0; cases hm0
  obtain ⟨i1, i2, _⟩ := inT6
  refine ⟨G, a, b, en, r, fi, st, cs, m + 1, k, fate, rfl, rfl, W6, En, L, hr6, hf6, by omega, by omega, fun G7 H7 cs7 s7 I7 => ?_⟩
  have i7a := I7.S.fr _ _ (by simp [na, nb, nar, naf]) (fun ps z => by cases z) i1
  have i7m := I7.S.fr _ _ (by simp [nma, nmb, nmr, nmf]) (fun ps z => by cases z) i2
  have i7b : ∃ t', H7 b = some (.ins T.Book.C dx [("states", .ref t')]) := by
    obtain ⟨fs', e⟩ := I7.S.dk dx _ (s6 _ _ hb5)
    obtain ⟨dx', t', e2, _⟩ := I7.W.bk
    rw [e] at e2
    cases e2
    exact ⟨t', e⟩
  have ga7 : G7 at' = none := I7.S.gr.off i1 ga' fun ps z => by cases z
  obtain ⟨xs7, hxl7, hr7⟩ := I7.hr
  obtain ⟨j7, hjl7, hf7⟩ := I7.hf
  obtain ⟨db, tb1, hb7, _⟩ := id I7.W.bk
  have gr7 : G7 r = none := I7.S.gr.off hr6 gr0 fun ps z => by cases z
  have gf7 : G7 fi = none := I7.S.gr.off hf6 gf0 fun ps z => by cases z
  -- the whole step
  have step : ∀ H8 : Hp, (∀ c o, c ≠ at' → c ≠ b → H7 c = some o → H8 c = some o) → Same G7 H8 → DxK T.Book.C b H H8 → Stp T.Book.C b [a, b] H G H8 G7 := fun H8 k8 sg8 dk8 => by
    refine ⟨fun x o n t h => ?_, ⟨I7.S.gr.same, fun x hx hx7 => ?_, sg8⟩, dk8⟩
    · have n1 : x ≠ a := fun z => n (by simp [z])
      have n2 : x ≠ b := fun z => n (by simp [z])
      have n3 : x ≠ at' := fun z => by
        have := ex5 _ _ (f04 x o n1 h) t
        rw [z, ha0] at this; cases this
      have n4 : x ≠ r := fun z => by rw [z, hr] at h; cases h
      have n5 : x ≠ fi := fun z => by rw [z, hfi0] at h; cases h
      exact k8 x o n3 n2 (I7.S.fr x o (by simp [n1, n2, n4, n5]) t (f06 x o n1 t h))
    · have fx := I7.S.gr.new x hx hx7
      refine fun o ho => ?_
      by_cases t : ∃ ps, o = .tbl ps
      · exact t
      · exact fx o (f06 x o (W6.well.off fx) (fun ps z => t ⟨ps, z⟩) ho)
  have kx : ∀ j : Nat, ((List.replicate ((j : Nat) : Int).toNat [V.bl true]).flatten : List V) = List.replicate j (.bl true) := fun j => by
    rw [Int.toNat_natCast, List.flatten_replicate_singleton]
  refine ⟨?_, fun d => ?_⟩
  · -- it ended well
    refine h1 (.int n) H7 ⟨i7a, i7m, i7b⟩ fun H8 e8 => ?_
    have W8 := I7.W.exi i7a ga7 nb e8
    have hr8 := e8 _ _ nar.symm hr7
    have hf8 := e8 _ _ naf.symm hf7
    have st8 := step H8 (fun c o n1 _ h => e8 c o n1 h) W8.sg (fun dx' fs e => by
      rw [hb] at e; cases e
      obtain ⟨t', e'⟩ := i7b
      exact ⟨_, e8 _ _ nb.symm e'⟩)
    refine ⟨_, rfl, szL (by show 1 ≤ 1000000; decide), fun l hl => ⟨_, rfl, fi, _, rfl, .inl (SqL.of (((Same.refl H8).new (o := .lst [.bl true]) hl) _ _ hf8)), ?_⟩⟩
    have s9 := (Same.refl H8).new (o := .lst [.bl true]) hl
    refine ⟨l, _, _, rfl, rfl, upd_same, by omega, by rw [List.length_replicate]; omega, by rw [List.length_replicate, Int.toNat_natCast]; exact szL (by show 1 * j7 ≤ 1000000; omega), fun pp hpp => ?_⟩
    rw [List.length_replicate, kx]
    have s10 := s9.new (o := .lst (List.replicate j7 (.bl true))) hpp
    have p10 := upd_same (H := upd H8 l (.lst [.bl true])) (a := pp) (o := .lst (List.replicate j7 (.bl true)))
    generalize upd (upd H8 l (.lst [.bl true])) pp (.lst (List.replicate j7 (.bl true))) = H10 at s10 p10 ⊢
    have W10 := W8.same s10
    refine ⟨_, _, .lst (SqL.of (s10 _ _ hf8)) (dp_reps true j7), .lst (SqL.of p10) (dp_reps true j7), sh_rep true j7, sh_rep true j7, _, rfl, ifT (eqv_rep true j7) ?_⟩
    refine ⟨_, rfl, _, rfl, rfl, _, rfl, ifT (by simp) ?_⟩
    refine ⟨_, rfl, _, rfl, 1, rfl, r, _, -1, _, rfl, rfl, SqL.of (s10 _ _ hr8), atI_last _ _, ?_⟩
    refine ⟨G7, b, s7, cs7, rfl, W10.sg, W10.bk, W10.is, by have := W10.ok.len; omega, W10.ok.ok, fun H11 s11 => ?_⟩
    refine ⟨_, rfl, 1, rfl, r, _, -1, _, rfl, rfl, SqL.of (s11 _ _ (s10 _ _ hr8)), atI_last _ _, ?_⟩
    refine ⟨szL (by show 3 ≤ 1000000; decide), fun t ht => ?_⟩
    have s12 := s11.new (o := .tup [.bl true, .ref s7, .bl false]) ht
    exact q t s7 false cs7 G7 _ upd_same ((W10.same s12).mono (by omega) (by omega)) ((st8.same s10).same s12)
  · -- it ended with an error
    refine h2 _ d H7 ⟨i7a, i7m, i7b⟩ fun H8 k8 hb8 => ?_
    obtain ⟨ib1, ib2⟩ : IsStates T.Field.C G tb0 (cs.map snapB) ∧ True := by
      obtain ⟨dx', t', e', ist⟩ := W.bk
      rw [hb] at e'
      cases e'
      exact ⟨ist, trivial⟩
    have W8 : Wld T F G7 H8 a b cs st (m + 1 + 2 * (22 + sub n)) (k + 2 * (22 + sub n)) := I7.W.back i7a ga7 k8 hb8 (ib1.mono I7.S.gr.same) (W.is.mono I7.S.gr.same) (W.ok.mono (by omega))
    have hr8 := k8 _ _ nar.symm nrb hr7
    have hf8 := k8 _ _ naf.symm nfb hf7
    have st8 := step H8 k8 W8.sg (fun dx' fs e => by
      rw [hb] at e; cases e
      exact ⟨_, hb8⟩)
    refine ⟨true, rfl, fun _ ax hax => ?_, fun z => Bool.noConfusion z⟩
    refine ⟨_, rfl, szL (by show 1 ≤ 1000000; decide), fun l hl => ⟨_, rfl, fi, _, rfl, .inl (SqL.of (((Same.refl H8).new (o := .lst [.bl true]) hl) _ _ hf8)), ?_⟩⟩
    have s9 := (Same.refl H8).new (o := .lst [.bl true]) hl
    refine ⟨l, _, _, rfl, rfl, upd_same, by omega, by rw [List.length_replicate]; omega, by rw [List.length_replicate, Int.toNat_natCast]; exact szL (by show 1 * j7 ≤ 1000000; omega), fun pp hpp => ?_⟩
    rw [List.length_replicate, kx]
    have s10 := s9.new (o := .lst (List.replicate j7 (.bl true))) hpp
    have p10 := upd_same (H := upd H8 l (.lst [.bl true])) (a := pp) (o := .lst (List.replicate j7 (.bl true)))
    generalize upd (upd H8 l (.lst [.bl true])) pp (.lst (List.replicate j7 (.bl true))) = H10 at s10 p10 ⊢
    have W10 := W8.same s10
    refine ⟨_, _, .lst (SqL.of (s10 _ _ hf8)) (dp_reps true j7), .lst (SqL.of p10) (dp_reps true j7), sh_rep true j7, sh_rep true j7, _, rfl, ifT (eqv_rep true j7) ?_⟩
    refine ⟨_, rfl, _, rfl, G7, b, st, cs, rfl, W10.sg, W10.bk, W10.is, by have := W10.ok.len; omega, W10.ok.ok, fun H11 s11 => ?_⟩
    refine ⟨_, rfl, szL (by show 3 ≤ 1000000; decide), fun t ht => ?_⟩
    have s12 := s11.new (o := .tup [.bl true, .ref st, .bl true]) ht
    exact q t st true cs G7 _ upd_same ((W10.same s12).mono (by omega) (by omega)) ((st8.same s10).same s12)
end
end Spf
end
section
set_option maxHeartbeats 4000000
/-! The law at one well. -/
namespace Spf
open PySem PySem.Spec PyProof.Rows L2 L2H HotX LamX NdefX
/-- the heap as a ghost: all but the well, the book and the tables -/
def gh (a b : Addr) (H : Hp) : Hp := fun x => if x = a ∨ x = b then none else nt H x
theorem gh_get {a b x : Addr} {H : Hp} {o : HO} (h : H x = some o) (n : ∀ ps, o ≠ .tbl ps) (na : x ≠ a) (nb : x ≠ b) : gh a b H x = some o := by
  unfold gh
  rw [if_neg (fun z => z.elim na nb)]
  exact nt_get h n
theorem gh_sub {a b : Addr} {H : Hp} : Same (gh a b H) H := fun x o h => by
  unfold gh at h
  split at h
  · cases h
  · exact nt_sub h
theorem gh_no (a b : Addr) (H : Hp) : NoTbl (gh a b H) := fun x ps h => by
  unfold gh at h
  split at h
  · cases h
  · exact nt_no H x ps h
theorem gh_a (a b : Addr) (H : Hp) : gh a b H a = none := if_pos (.inl rfl)
theorem gh_b (a b : Addr) (H : Hp) : gh a b H b = none := if_pos (.inr rfl)
def snap0 : Snap := ⟨[], []⟩
theorem snapB0 : snapB snap0 = snap0 := by
  show (⟨sortH [], []⟩ : Snap) = ⟨[], []⟩
  have : sortH [] = [] := by simp [sortH]
  rw [this]
section
variable {P : Program} {w : World} {K : PySem.W.Frag} {mg : Str → Option Value} {base : Heap}
theorem okLNested (T : TxtA K mg) (F : TabFacts K mg base T) (Kw : KwFacts T) : ∀ n : Nat, FnX P w K mg base CX0 true false (20 + 3 * n) T.l_nested.f T.l_nested.fd pLNested (spNested T F n)
  | 0 => okLNestedStep (lv := 17) (spR := fun _ _ _ _ => False) T F Kw 0 ⟨fun _ _ _ _ h => h.elim, fun _ _ _ _ _ _ _ _ _ _ _ _ _ _ _ h => h.elim⟩ (Nat.le_refl _) fun j e => by omega
  | n + 1 => okLNestedStep (lv := 20 + 3 * n) T F Kw (n + 1) (okLNested T F Kw n) (by omega) fun j e vs H Q E h => by
    have : n = j := by omega
    subst this
    exact h
section
variable {T : TxtA K mg} {F : TabFacts K mg base T} {G H G' H' : Hp} {a b st : Addr} {cs : List Snap} {m k : Nat}
theorem Wld.setk (W : Wld T F G H a b cs st m k) {k' : Nat} (h : cs.length ≤ k') : Wld T F G H a b cs st m k' := ⟨W.sg, W.ng, W.ga, W.gb, W.well, W.bk, W.is, ⟨h, W.ok.ok, W.ok.last⟩, W.tb⟩
/-- a new list is laid and known -/
theorem Wld.lay (W : Wld T F G H a b cs st m k) {x : Addr} {xs : List V} (hx : H x = none) : Wld T F (upd G x (.lst xs)) (upd H x (.lst xs)) a b cs st m k ∧ Stp T.Book.C b [a, b] H G (upd H x (.lst xs)) (upd G x (.lst xs)) := by
  have sH := (Same.refl H).new (o := .lst xs) hx
  have gx : G x = none := W.sg.free hx
  have sG := (Same.refl G).new (o := .lst xs) gx
  obtain ⟨ys, ha⟩ := W.well.nf
  obtain ⟨dx, t, hb, ist⟩ := W.bk
  have nxa : a ≠ x := ne_of_none ha hx
  have nxb : b ≠ x := ne_of_none hb hx
  have le : Same (upd G x (.lst xs)) (upd H x (.lst xs)) := fun y o h => by
    by_cases z : y = x
    · subst z; rw [upd_same] at h ⊢; exact h
    · rw [upd_ne z] at h ⊢; exact W.sg _ _ h
  refine ⟨⟨le, W.ng.put fun ps z => (by cases z), by rw [upd_ne nxa]; exact W.ga, by rw [upd_ne nxb]; exact W.gb, W.well.same sH, ⟨dx, t, sH _ _ hb, ist.mono sG⟩, W.is.mono sG, W.ok, Tabs.same sH W.tb⟩, fun y o n t h => sH _ _ h, ⟨sG, fun y hy hy' => ?_, le⟩, fun dx fs h => ⟨fs, sH _ _ h⟩⟩
  by_cases z : y = x
  · subst z; exact .of hx
  · rw [upd_ne z] at hy'; exact absurd hy hy'
end
abbrev vLRight : List Str := ["_law_well_here", "_law_entries_here", "_law_shelf", "_law_state", "_law_turn", "_law_right_here", "_law_lost"]
abbrev pLRight : List Str := ["_law_well_here"]
theorem scLRight : FnScope vLRight pLRight (defScope (top 84)) := ⟨rfl, rfl, rfl, by decide +kernel, rfl, by decide +kernel, by decide +kernel⟩
def spRight (T : TxtA K mg) (F : TabFacts K mg base T) : Sp := fun vs H Q _ => ∃ a, vs = [.ref a] ∧ Well H a 0 ∧ Tabs F.TL H ∧ ∀ H', (∀ x o, x ≠ a → (∀ ps, o ≠ .tbl ps) → H x = some o → H' x = some o) → Tabs F.TL H' → Q (.bl true) H'
theorem okLRight (T : TxtA K mg) (F : TabFacts K mg base T) (Kw : KwFacts T) : FnX P w K mg base CX0 true false 28 T.l_right.f T.l_right.fd pLRight (spRight T F) := by
  refine funX0 (k := 27) T.l_right.F scLRight (fun vs H Q E ⟨a, e, _⟩ => e ▸ rfl) fun cdv A outer s H vs Q E p c ⟨a, e, hw, hT, q⟩ => ?_
  subst e
  refine ⟨_, pss_cons (ps_par (i := 1) (j := 2) (by rfl) scLRight.nd rfl rfl (by decide) rfl rfl (pa_cons (pe_callX (okLEntries T) (c.mono (by decide)) nogd rfl T.l_entries.mg T.l_entries.kp T.l_entries.b at00 (pa_cons (pv 0) pa_nil)) (pa_cons (pe_make0X T.bInit.mk1 (okBookInit T) (c.mono (by decide)) nogd rfl T.Book.mg T.bInit.b) pa_nil)) (by rfl))
      (pss_cons (ps_set (i := 3) scLRight.nd rfl (Or.inl rfl) (pe_callX (okLBehind T F Kw) (c.mono (by decide)) (fun z => z) rfl T.l_behind.mg T.l_behind.kp T.l_behind.b at00 (pa_cons (pv 0) (pa_cons (pv 2) (pa_cons (pe_lst (pa_cons pe_dnewK (pa_cons (pe_lst pa_nil) (pa_cons (pe_lst pa_nil) pa_nil)))) (pa_cons (pe_lst (pa_cons pe_str (pa_cons pe_str (pa_cons (pe_ix ix_list (pv 1) pe_int (fun _ _ => rfl)) pa_nil)))) pa_nil))))))
      (pss_cons (ps_for PassesOwn.never rfl (pi_range1 rfl T.range (pa_cons pe_int pa_nil)) (pg_name (i := 4) scLRight.nd rfl (Or.inl rfl)) (pss_cons (ps_if (pt_cmpR op_isN (pv 3) pe_non (nomark _)) (pss_one (ps_ret pe_bl)) pss_nil)
      (pss_cons (ps_asg (pe_callX (okLNested T F Kw 2) (c.mono (by decide)) (fun z => z) rfl T.l_nested.mg T.l_nested.kp T.l_nested.b at00 (pa_cons (pv 0) (pa_cons (pv 2) (pa_cons (pv 1) (pa_cons (pv 3) (pa_cons pe_int pa_nil)))))) (pg_tupX c.md (pgs_cons (pg_name (i := 5) scLRight.nd rfl (Or.inl rfl)) (pgs_cons (pg_name (i := 3) scLRight.nd rfl (Or.inl rfl)) (pgs_cons (pg_name (i := 6) scLRight.nd rfl (Or.inl rfl)) pgs_nil)))))
      (pss_one (ps_if (pt_not (pt_val (pv 5))) (pss_one (ps_ret pe_bl)) pss_nil)))))
      (pss_cons (ps_for PassesOwn.never rfl (pi_range1 rfl T.range (pa_cons (pe_op op_add (pe_callB call_len_seq (by rfl) T.len PySem.boot_len (pa_cons (pe_ix ix_list (pv 3) pe_int (fun _ _ => rfl)) pa_nil)) pe_int) pa_nil)) (pg_name (i := 4) scLRight.nd rfl (Or.inl rfl)) (pss_cons (ps_set (i := 3) scLRight.nd rfl (Or.inl rfl) (pe_callX (okLBehind T F Kw) (c.mono (by decide)) (fun z => z) rfl T.l_behind.mg T.l_behind.kp T.l_behind.b at00 (pa_cons (pv 0) (pa_cons (pv 2) (pa_cons (pv 3) (pa_cons (pe_lst (pa_cons pe_str pa_nil)) pa_nil))))))
      (pss_one (ps_if (pt_cmpR op_isN (pv 3) pe_non (nomark _)) (pss_one (ps_ret pe_bl)) pss_nil))))
      (pss_one (ps_ret (pe_and (pe_cmpR op_eq (pe_propX (E := fun _ => E0) (pv 2) T.Book.cl T.bChanges.p (okBookChanges T) (c.mono (by decide)) nogd T.bChanges.b rfl) pe_int (nomark _)) (pe_one (pe_cmpR (op_eqD c.rm.units) (pe_propX (E := fun _ => E0) (pv 2) T.Book.cl T.bNames.p (okBookNames T) (c.mono (by decide)) nogd T.bNames.b rfl) (pe_tup pa_nil) (nomark _))))))))), ?_⟩
  refine ⟨_, rfl, a, 0, rfl, hw, by decide, fun l ps es H1 hl hlen pe hl0 w1 e1 => ?_⟩
  obtain ⟨wx, hwx⟩ := hw.nf
  have T1 : Tabs F.TL H1 := tabs_ex hT e1 hwx (fun ps z => by cases z) fun c q z => by unfold CodeO at z; cases z
  refine fun b dx hb0 hdx hne => ⟨b, dx, rfl, upd_same, fun t e ww s0 H2 k2 hb2 ht he hww hs0 ht2 hs2 he2 hw2 => ⟨rfl, _, _, rfl, ?_⟩⟩
  have s12 : Same H1 H2 := fun c o hc => k2 _ _ (ne_of_none hc hb0) (by rw [upd_ne (ne_of_none hc hb0), upd_ne (ne_of_none hc hdx)]; exact hc)
  have w2 := w1.same s12
  have T2 := Tabs.same s12 T1
  have f02 : ∀ x o, x ≠ a → H x = some o → H2 x = some o := fun x o n h => s12 _ _ (e1 _ _ n h)
  have hl2 := s12 _ _ hl
  obtain ⟨p0, ps', e0, es', rfl, rfl, pe0, pe'⟩ : ∃ p0 ps' e0 es', ps = p0 :: ps' ∧ es = e0 :: es' ∧ EntAt H1 p0 e0 ∧ Paired (EntAt H1) ps' es' := by
    cases pe with
    | nil => cases hlen
    | cons h r => exact ⟨_, _, _, _, rfl, rfl, h, r⟩
  refine ⟨_, rfl, _, rfl, fun d hd => ⟨Nat.zero_le _, fun o ho => ⟨Nat.zero_le _, fun pp hpp => ⟨szL (by show 3 ≤ 1000000; decide), fun st hst => ?_⟩⟩⟩⟩
  have s3 := (Same.refl H2).new (o := .dK []) hd
  have d3 := upd_same (H := H2) (a := d) (o := .dK [])
  generalize upd H2 d (.dK []) = H3 at s3 d3 ho hpp hst ⊢
  have s4 := s3.new (o := .lst []) ho
  have d4 : upd H3 o (.lst []) d = some (.dK []) := by rw [upd_ne (ne_of_none d3 ho)]; exact d3
  have o4 := upd_same (H := H3) (a := o) (o := .lst [])
  generalize upd H3 o (.lst []) = H4 at s4 d4 o4 hpp hst ⊢
  have s5 := s4.new (o := .lst []) hpp
  have d5 : upd H4 pp (.lst []) d = some (.dK []) := by rw [upd_ne (ne_of_none d4 hpp)]; exact d4
  have o5 : upd H4 pp (.lst []) o = some (.lst []) := by rw [upd_ne (ne_of_none o4 hpp)]; exact o4
  have p5 := upd_same (H := H4) (a := pp) (o := .lst [])
  generalize upd H4 pp (.lst []) = H5 at s5 d5 o5 p5 hst ⊢
  have s6 := s5.new (o := .lst [.ref d, .ref o, .ref pp]) hst
  have s56 := (Same.refl H5).new (o := .lst [.ref d, .ref o, .ref pp]) hst
  have t6 := upd_same (H := H5) (a := st) (o := .lst [.ref d, .ref o, .ref pp])
  generalize upd H5 st (.lst [.ref d, .ref o, .ref pp]) = H6 at s6 s56 t6 ⊢
  refine ⟨_, rfl, l, _, 0, .ref p0, rfl, rfl, SqL.of (s6 _ _ hl2), atI_nat (j := 0) rfl, szL (by show 3 ≤ 1000000; decide), fun dd hdd => ?_⟩
  have s7 := s6.new (o := .lst [.str "put", .str "a", .ref p0]) hdd
  have s57 := s56.new (o := .lst [.str "put", .str "a", .ref p0]) hdd
  have t7 : upd H6 dd (.lst [.str "put", .str "a", .ref p0]) st = some (.lst [.ref d, .ref o, .ref pp]) := by rw [upd_ne (ne_of_none t6 hdd)]; exact t6
  have u7 := upd_same (H := H6) (a := dd) (o := .lst [.str "put", .str "a", .ref p0])
  generalize upd H6 dd (.lst [.str "put", .str "a", .ref p0]) = H7 at s7 s57 t7 u7 ⊢
  have w7 := w2.same s7
  have hb7 := s7 _ _ hb2
  obtain ⟨wx7, hwx7⟩ := w7.nf
  have nl : ∀ {x : Addr} {xs : List V}, H7 x = some (.lst xs) → H a = none ∨ x ≠ a → x ≠ b → True := fun _ _ _ => trivial
  have na : ∀ {x : Addr}, H1 x = none → x ≠ a := fun {x} h z => by
    obtain ⟨xs, e⟩ := w1.nf
    rw [z, e] at h; cases h
  have nb : ∀ {x : Addr} {o' : HO}, H7 x = some o' → (∀ C dx fs, o' ≠ .ins C dx fs) → x ≠ b := fun {x o'} h n z => by
    rw [z, hb7] at h; cases h; exact n _ _ _ rfl
  have nl0 : ∀ {x : Addr}, H2 x = none → x ≠ a := fun {x} h z => by
    obtain ⟨xs, e⟩ := w2.nf
    rw [z, e] at h; cases h
  have nd : d ≠ a := nl0 hd
  have no : o ≠ a := fun z => by
    obtain ⟨xs, e⟩ := (w2.same s3).nf
    rw [z, e] at ho; cases ho
  have npp : pp ≠ a := fun z => by
    obtain ⟨xs, e⟩ := (w2.same s4).nf
    rw [z, e] at hpp; cases hpp
  have nst : st ≠ a := fun z => by
    obtain ⟨xs, e⟩ := (w2.same s5).nf
    rw [z, e] at hst; cases hst
  have ndd : dd ≠ a := fun z => by
    obtain ⟨xs, e⟩ := (w2.same s6).nf
    rw [z, e] at hdd; cases hdd
  have nla : l ≠ a := fun z => by rw [z, hwx] at hl0; cases hl0
  have gG : ∀ {x : Addr} {o' : HO}, H7 x = some o' → x ≠ a → (∀ ps, o' ≠ .tbl ps) → (∀ C dx fs, o' ≠ .ins C dx fs) → gh a b H7 x = some o' := fun h n1 n2 n3 => gh_get h n2 n1 (nb h n3)
  have gl : ∀ {x : Addr} {xs : List V}, H7 x = some (.lst xs) → x ≠ a → gh a b H7 x = some (.lst xs) := fun h n => gG h n (fun ps z => by cases z) fun _ _ _ z => by cases z
  have gt : ∀ {x : Addr} {xs : List V}, H7 x = some (.tup xs) → gh a b H7 x = some (.tup xs) := fun {x xs} h => gG h (fun z => by rw [z, hwx7] at h; cases h) (fun ps z => by cases z) fun _ _ _ z => by cases z
  have nm : ∀ {p : Addr} {e : Ent}, EntAt H1 p e → p ≠ a := fun h => h.ne w1
  have ge : ∀ {p : Addr} {e : Ent}, EntAt H1 p e → IsEnt (gh a b H7) p e := fun h => ⟨gl (s7 _ _ (s12 _ _ h.1)) (nm h), h.2⟩
  have en7 : Ents (gh a b H7) l := ⟨p0 :: ps', e0 :: es', gl (s7 _ _ hl2) nla, .cons (ge pe0) (pe'.mono fun _ _ h => ge h), hlen⟩
  have bk7 : IsBook T.Book.C T.Field.C H7 (gh a b H7) b ([snap0].map snapB) := by
    refine ⟨dx, t, hb7, [s0], gt (s7 _ _ ht2), ?_⟩
    rw [List.map_singleton, snapB0, List.reverse_singleton]
    exact .cons ⟨e, ww, gt (s7 _ _ hs2), .inl ⟨rfl, gt (s7 _ _ he2)⟩, [], gt (s7 _ _ hw2), .nil⟩ .nil
  have is7 : IsSt (gh a b H7) st [snap0] := ⟨d, o, pp, [], gl t7 nst, ⟨[], gG (s57 _ _ d5) nd (fun ps z => by cases z) (fun _ _ _ z => by cases z), .nil, .nil⟩, ⟨[], gl (s57 _ _ o5) no, .nil⟩, fun w hw => (by cases hw), gl (s57 _ _ p5) npp, rfl, fun z => absurd rfl z⟩
  have W7 : Wld T F (gh a b H7) H7 a b [snap0] st 200 1 := by
    refine ⟨gh_sub, gh_no _ _ _, gh_a _ _ _, gh_b _ _ _, w7, bk7, is7, ⟨Nat.le_refl _, fun c hc => ?_, rfl⟩, Tabs.same s7 T2⟩
    rw [List.mem_singleton.mp hc]
    exact ⟨fun kv hkv => (by cases hkv), .nil, Nat.zero_le _, fun w hw => (by cases hw)⟩
  have f07 : ∀ x o, x ≠ a → H x = some o → H7 x = some o := fun x o n h => s7 _ _ (f02 x o n h)
  have b0 : H b = none := by
    cases e' : H b with
    | none => rfl
    | some o' =>
      have nba : b ≠ a := fun z => by
        obtain ⟨xs, e⟩ := w1.nf
        rw [z, e] at hb0; cases hb0
      rw [e1 _ _ nba e'] at hb0; cases hb0
  have od0 : DeedOk snap0 (.put "a" e0) := ⟨by simp [nms], pe0.2⟩
  refine ⟨gh a b H7, a, b, st, dd, snap0, [], .put "a" e0, 200, rfl, W7.sg, W7.ng, W7.ga, W7.gb, W7.well, by decide, W7.bk, W7.is, W7.ok.mono (by decide), ⟨p0, gl u7 ndd, ge pe0⟩, od0, W7.tb, fun s8 H8 G8 fr8 tb8 ng8 gr8 is8 bk8 dk8 w8 => ?_⟩
  obtain ⟨W8, S8⟩ := W7.after od0 fr8 tb8 ng8 gr8 is8 bk8 dk8 w8
  have en8 := en7.mono gr8.same
  generalize (due [snap0] (.put "a" e0)).2 = cs8 at W8
  clear is8 bk8
  have hsub : sub 2 = 135 := rfl
  have hcost : cost 2 = 315 := rfl
  refine ⟨3, rfl, by decide, by decide, for_range (n := 3) (fun i σ H' => ∃ (G' : Hp) (cs' : List Snap) (s' : Addr) (u1 u2 u3 : Option V), Wld T F G' H' a b cs' s' (201 + i * 315) (2 + i * 315) ∧ Stp T.Book.C b [a, b] H7 (gh a b H7) H' G' ∧ Ents G' l ∧ σ = [some (.ref a), some (.ref l), some (.ref b), some (.ref s'), u1, u2, u3]) ⟨G8, cs8, s8, none, none, none, W8, S8, en8, rfl⟩ ?_ ?_⟩
  · rintro i σ H9 hi ⟨G9, cs9, s9, u1, u2, u3, W9, S9, en9, rfl⟩
    refine ⟨_, rfl, rfl, _, rfl, ifF (by simp) ?_⟩
    refine ⟨_, rfl, _, rfl, _, rfl, _, rfl, ?_⟩
    refine ⟨G9, a, b, l, s9, cs9, _, _, rfl, W9, en9, by omega, by omega, fun t2 s10 lost cs10 G10 H10 ht10 W10 S10 => ?_⟩
    refine ⟨t2, _, rfl, SqT.of ht10, rfl, _, _, rfl, _, _, rfl, _, _, rfl, rfl, ?_⟩
    refine ⟨_, rfl, _, rfl, ifF rfl ?_⟩
    refine ⟨G10, cs10, s10, _, _, _, W10.mono (by omega) (by omega), S9.trans S10 fun x hx => ?_, en9.mono S10.gr.same, rfl⟩
    simp only [List.mem_cons, List.not_mem_nil, or_false] at hx
    rcases hx with rfl | rfl
    · exact W9.nf.1
    · exact W9.nf.2
  · rintro σ H9 ⟨G9, cs9, s9, u1, u2, u3, W9, S9, en9, rfl⟩
    have hl9 := W9.ok.len
    cases cs9 with
    | nil => exact W9.is.elim
    | cons c9 rest9 =>
    obtain ⟨h9, o9, p9, ps9, a1, _, _, _, a4, hl9', _⟩ := id W9.is
    rw [List.length_cons] at hl9
    refine ⟨_, rfl, s9, _, 2, .ref p9, rfl, rfl, SqL.of (W9.sg _ _ a1), atI_nat (j := 2) rfl, p9, _, rfl, .inl (SqL.of (W9.sg _ _ a4)), _, _, rfl, rfl, ?_⟩
    rw [List.length_map, hl9']
    have hN : ((rest9.length : Int) + 1).toNat = rest9.length + 1 := by omega
    refine ⟨_, rfl, by omega, by omega, for_range (n := ((rest9.length : Int) + 1).toNat) (fun i σ H' => ∃ (G' : Hp) (c' : Snap) (rest' : List Snap) (s' : Addr) (u1 u2 u3 : Option V), Wld T F G' H' a b (c' :: rest') s' (1200 + i) 955 ∧ Stp T.Book.C b [a, b] H7 (gh a b H7) H' G' ∧ rest'.length = rest9.length - i ∧ σ = [some (.ref a), some (.ref l), some (.ref b), some (.ref s'), u1, u2, u3]) ⟨G9, c9, rest9, s9, _, _, _, W9.mono (by omega) (by omega), S9, rfl, rfl⟩ ?_ ?_⟩
    · rintro i σ H10 hi ⟨G10, c10, rest10, s10, v1, v2, v3, W10, S10, hr10, rfl⟩
      have hi' : i ≤ 1000 := by rw [hN] at hi; omega
      have hheld : ∀ {G' H' : Hp} {cs' : List Snap} {s' : Addr} {m' k' : Nat}, Wld T F G' H' a b cs' s' m' k' → Held4 [a, b] H' := fun W x hx => by
        simp only [List.mem_cons, List.not_mem_nil, or_false] at hx
        rcases hx with rfl | rfl
        · exact W.nf.1
        · exact W.nf.2
      refine ⟨_, rfl, _, rfl, _, rfl, szL (by show 1 ≤ 1000000; decide), fun d2 hd2 => ?_⟩
      obtain ⟨W11, S11⟩ := W10.lay (xs := [.str "undo"]) hd2
      refine ⟨upd G10 d2 (.lst [.str "undo"]), a, b, s10, d2, c10, rest10, .undo, 1200 + i, rfl, W11.sg, W11.ng, W11.ga, W11.gb, W11.well, by omega, W11.bk, W11.is, W11.ok.mono (by decide), upd_same, trivial, W11.tb, fun s12 H12 G12 fr12 tb12 ng12 gr12 is12 bk12 dk12 w12 => ?_⟩
      obtain ⟨W12, S12⟩ := W11.after (d := .undo) trivial fr12 tb12 ng12 gr12 is12 bk12 dk12 w12
      have S13 := (S10.trans S11 (hheld W10)).trans S12 (hheld W11)
      refine ⟨_, rfl, rfl, _, rfl, ifF (by simp) ?_⟩
      have hlen10 := W10.ok.len
      cases rest10 with
      | nil =>
        have W13 : Wld T F G12 H12 a b [c10] s12 (1200 + i + 1) 956 := W12
        exact ⟨G12, c10, [], s12, _, _, _, W13.setk (by show 1 ≤ 955; decide), S13, by show 0 = _; have : 0 = rest9.length - i := hr10; omega, rfl⟩
      | cons r10 rs10 =>
        have W13 : Wld T F G12 H12 a b (r10 :: rs10) s12 (1200 + i + 1) 956 := W12
        simp only [List.length_cons] at hlen10 hr10
        exact ⟨G12, r10, rs10, s12, _, _, _, W13.setk (by rw [List.length_cons]; omega), S13, by omega, rfl⟩
    · rintro σ H10 ⟨G10, c10, rest10, s10, v1, v2, v3, W10, S10, hr10, rfl⟩
      rw [hN] at hr10
      have : rest10 = [] := List.length_eq_zero_iff.mp (by omega)
      subst this
      obtain rfl : c10 = snap0 := by
        have := W10.ok.last
        exact Option.some.inj this
      obtain ⟨dx10, t10, hb10, ist10⟩ := id W10.bk
      refine ⟨_, rfl, b, dx10, _, rfl, hb10, G10, b, _, rfl, W10.sg, W10.bk, rfl, _, rfl, ifT (by simp) ?_⟩
      refine ⟨_, rfl, b, dx10, _, rfl, hb10, G10, b, snapB snap0, [], rfl, W10.sg, W10.bk, by rw [snapB0]; exact Nat.zero_le _, fun l2 H11 s11 hl2 hl20 => ⟨Nat.zero_le _, fun e2 he2 => ?_⟩⟩
      rw [snapB0] at hl2
      have s12 := s11.new (o := .tup []) he2
      refine ⟨.tuple [], .tuple [], .tup (SqT.of (show upd H11 e2 (.tup []) l2 = some (.tup []) from by rw [upd_ne (ne_of_none hl2 he2)]; exact hl2)) .nil, .tup (SqT.of upd_same) .nil, rfl, rfl, ?_⟩
      have ee : PyData.eqv (.tuple []) (.tuple []) = true := by simp [PyData.eqv, PyData.eqvAll]
      rw [ee]
      refine q _ (fun x o' n t' hx => s12 _ _ (S10.fr x o' ?_ t' (f07 x o' n hx))) (Tabs.same s12 W10.tb)
      have nxb : x ≠ b := fun z => by rw [z, b0] at hx; cases hx
      simp [n, nxb]
end
end Spf
end
section
set_option maxHeartbeats 4000000
/-! The law. -/
namespace Spf
open PySem PySem.Spec PyProof.Rows L2 L2H HotX LamX NdefX
section
variable {P : Program} {w : World} {K : PySem.W.Frag} {mg : Str → Option Value} {base : Heap}
abbrev vLaw : List Str := ["_law_script", "_law_k"]
abbrev pLaw : List Str := ["_law_script"]
theorem scLaw : FnScope vLaw pLaw (defScope (top 85)) := ⟨rfl, rfl, rfl, by decide +kernel, rfl, by decide +kernel, by decide +kernel⟩
theorem rd_kept {H H' : Hp} {K : PySem.W.Frag} {a : Addr} {xs : List V} (h : SqL K H a xs) (f : ∀ o, (∀ ps, o ≠ .tbl ps) → H a = some o → H' a = some o) : SqL K H' a xs := by
  rcases h with (h | ⟨u, h⟩) | h
  · exact .inl (.inl (f _ (fun ps z => by cases z) h))
  · exact .inl (.inr ⟨u, f _ (fun ps z => by cases z) h⟩)
  · exact .inr h
def spLaw (T : TxtA K mg) (F : TabFacts K mg base T) : Sp := fun vs H Q _ => ∃ (a : Addr) (ns : List Int), vs = [.ref a] ∧ ns.length ≤ 63 ∧ SqL K H a (ns.map V.int) ∧ Tabs F.TL H ∧ ∀ H', Q (.bl true) H'
theorem okLaw (T : TxtA K mg) (F : TabFacts K mg base T) (Kw : KwFacts T) : FnX P w K mg base CX0 true false 29 T.law.f T.law.fd pLaw (spLaw T F) := by
  refine funX0 (k := 28) T.law.F scLaw (fun vs H Q E ⟨a, ns, e, _⟩ => e ▸ rfl) fun cdv A outer s H vs Q E p c ⟨a, ns, e, hlen, ha, hT, q⟩ => ?_
  subst e
  refine ⟨_, pss_one (ps_ret (pe_callB (cr_all rfl) (by rfl) T.all (by decide +kernel) (pa_cons (pe_lc rfl (own := [("_law_k", 1)]) (g := gName 1) scLaw.nd (pi_range1 rfl T.range (pa_cons (pe_callB (call_max2 rfl) (by rfl) T.max (by decide +kernel) (pa_cons pe_int (pa_cons (pe_callB (call_min2 rfl) (by rfl) T.min (by decide +kernel) (pa_cons (pe_callB call_len_seq (by rfl) T.len PySem.boot_len (pa_cons (pv 0) pa_nil)) (pa_cons pe_int pa_nil))) pa_nil))) pa_nil)) (blkOk_by (N := vLaw) (sc := defScope (top 85)) (by decide +kernel)) (fun _ _ _ _ _ => (pg_name (i := 1) scLaw.nd rfl (Or.inl rfl))) (fun _ _ _ _ _ => pts_nil) (fun _ _ _ _ _ => (pe_callX (okLRight T F Kw) (c.blk.mono (by decide)) (fun z => z) rfl T.l_right.mg T.l_right.kp T.l_right.b at00 (pa_cons (pe_callX (okLWell T) (c.blk.mono (by decide)) nogd rfl T.l_well.mg T.l_well.kp T.l_well.b at00 (pa_cons (pv 0) (pa_cons (pv 1) pa_nil))) pa_nil)))) pa_nil))), ?_⟩
  refine ⟨_, rfl, a, _, rfl, .inl ha, _, _, rfl, _, _, rfl, ?_⟩
  rw [List.length_map]
  generalize hv : (if (if (4 : Int) < ((ns.length : Nat) : Int) then (4 : Int) else ((ns.length : Nat) : Int)) > 2 then (if (4 : Int) < ((ns.length : Nat) : Int) then (4 : Int) else ((ns.length : Nat) : Int)) else 2) = v
  have hv4 : v ≤ 4 := by rw [← hv]; split <;> split <;> omega
  have hv2 : 2 ≤ v := by rw [← hv]; split <;> omega
  refine ⟨_, rfl, by omega, by omega, fun D hD => lc_it (walk_range (n := v.toNat)) (fun i H' => Tabs F.TL H' ∧ (∀ x o, (∀ ps, o ≠ .tbl ps) → H x = some o → H' x = some o) ∧ H' D = some (.lst (List.replicate i (.bl true)))) ⟨Tabs.same ((Same.refl H).new hD) hT, fun x o n h => ((Same.refl H).new hD) _ _ h, upd_same⟩ (fun _ _ _ _ => trivial) ?_ ?_⟩
  · rintro i x H2 H3 hi ⟨t2, f2, d2⟩ ⟨rfl, rfl⟩
    refine ⟨rfl, ?_⟩
    have a2 : SqL K H3 a (ns.map V.int) := rd_kept ha fun o n h => f2 _ _ n h
    refine ⟨_, rfl, _, rfl, a, ns, i, by show [V.ref a, V.int (0 + (i : Int))] = _; rw [Int.zero_add], a2, hlen, by omega, fun l H4 s4 hl0 w4 => ?_⟩
    refine ⟨l, rfl, w4, Tabs.same s4 t2, fun H5 f5 t5 => ?_⟩
    have nDl : D ≠ l := ne_of_none d2 hl0
    have d5 : H5 D = some (.lst (List.replicate i (.bl true))) := f5 _ _ nDl (fun ps z => by cases z) (s4 _ _ d2)
    refine ⟨_, d5, szLt (by rw [List.length_replicate]; omega), tabs_lst t5 d5, fun x o n h => ?_, ?_⟩
    · have h2 := f2 x o n h
      have nxl : x ≠ l := ne_of_none h2 hl0
      have nxD : x ≠ D := ne_of_none h hD
      rw [upd_ne nxD]
      exact f5 x o nxl n (s4 _ _ h2)
    · rw [upd_same, List.replicate_succ']
  · rintro H2 ⟨t2, f2, d2⟩
    refine ⟨D, List.replicate v.toNat true, rfl, SqL.of (by rw [d2, List.map_replicate]), ?_⟩
    have : (List.replicate v.toNat true).all id = true := by simp
    rw [this]
    exact q H2
end
end Spf
end
section
set_option maxHeartbeats 4000000
/-! The facts that the head's answers give. -/
namespace Spf
open PySem PySem.Spec PyProof.Rows L2 L2H HotX LamX NdefX
/-- how plain arguments bind -/
theorem fun_binds {K : PySem.W.Frag} {x qual : Str} {st : Stmt} {f : Addr} {fd : FuncData} {ps : List Str} (F : Fun K x qual st f fd)
    (h : ∀ (kV doc pm : Value) (an : Option Addr) (cdv ct : Value) (us : List Value), us.length = ps.length → bindArgs (PySem.W.fnOf x qual (defArgs st) (defBody st) (defScope st) .none kV doc pm an cdv ct) ⟨us, []⟩ = pure (ps.zip us)) : Binds K fd ps [] := by
  obtain ⟨oc, od, kV, doc, pm, an, cdv, ct, osl, rfl, lk, hcd⟩ := F.ex
  exact .all (h kV doc pm an cdv ct)
theorem exClsB_ok {K : PySem.W.Frag} {C : Addr} {tl : List Value} {newId : String} (h : exClsB K C tl newId = true) :
    ∃ nm q N bs bm sn sub ab col dd k0 k1 k2 k3 k5, K.lookup C = some (excClassObj nm q C N bs bm true sn sub ab col dd k0 k1 k2 k3 k5 newId) ∧ PySem.SpfX.refsT tl bm = true := by
  unfold exClsB at h
  split at h
  · rename_i dd cd sl lk
    split at h
    · rename_i C' bm k0 k1 k2 k3 n k5 hm hs
      obtain ⟨h1, h⟩ := Bool.and_eq_true_iff.mp h
      obtain ⟨h2, h⟩ := Bool.and_eq_true_iff.mp h
      obtain ⟨h3, h⟩ := Bool.and_eq_true_iff.mp h
      obtain ⟨h4, h5⟩ := Bool.and_eq_true_iff.mp h
      have e1 : C' = C := beq_iff_eq.mp h1
      have e2 : n = newId := beq_iff_eq.mp h2
      subst e1 e2
      obtain ⟨nm, bs, mro, ns, qn, hd, sn, sub, ab, col, del⟩ := cd
      have e3 : del = false := by simpa using h3
      have e4 : hd = true := h4
      have e5 : mro = .ref C' :: bm := hm
      subst e3 e4 e5
      have e6 : sl = #[k0, k1, k2, k3, some (.builtin n), k5] := by
        obtain ⟨l⟩ := sl
        exact congrArg Array.mk hs
      subst e6
      exact ⟨nm, qn, ns, bs, bm, sn, sub, ab, col, dd, k0, k1, k2, k3, k5, lk, h5⟩
    · cases h
  · cases h
section
variable {K : PySem.W.Frag} {mg : Str → Option Value}
theorem fb_prop {x m : Str} (h : (Fb.prop x m).ok K = true) : PropOf K (He.ga K x) m (He.ma K (He.ga K x) m) (propGet K (He.ma K (He.ga K x) m)) := by
  obtain ⟨h1, h⟩ := band h
  obtain ⟨h2, h⟩ := band h
  obtain ⟨h3, h4⟩ := band h
  refine ⟨He.eqO_ok h1, He.eqO_ok h2, of_decide_eq_true h3, ?_⟩
  unfold propGet
  split at h4
  · rename_i g rest e
    rw [e]
    exact ⟨rest, rfl⟩
  · cases h4
theorem fb_ins {x : Str} (h : (Fb.ins x).ok K = true) : InsTy K (He.ga K x) := by
  obtain ⟨h1, h⟩ := band h
  obtain ⟨h2, h⟩ := band h
  obtain ⟨h3, h⟩ := band h
  obtain ⟨h4, h5⟩ := band h
  exact ⟨He.eqO_ok h1, He.eqO_ok h2, of_decide_eq_true h3, of_decide_eq_true h4, of_decide_eq_true h5⟩
theorem fb_ex1 {x f : Str} {tl : List Value} {newId initId B : String} {st : Stmt} {qual : Str} {fd : FuncData} {q1 q2 q3 q4 : Pos} (h : (Fb.ex1 x f tl newId).ok K = true) (g : mg x = some (.ref (He.ga K x))) (F : Fun K "__init__" qual st (He.ma K (He.ga K x) "__init__") fd) (eb : ExcBaseFacts B newId initId tl) (tf : PySem.SpfX.TailF tl)
    (hb : defBody st = PySem.SpfX.iB f q1 q2 q3 q4) (hs : defScope st = PySem.SpfX.iS f) (b : Binds K fd ["self", f] []) (n1 : (f == PySem.Str.ofString "self") = false) (n2 : (f == ("__debug__" : Str)) = false) : PySem.SpfX.EX1 K mg x f (He.ga K x) (He.ma K (He.ga K x) "__init__") := by
  obtain ⟨h1, h⟩ := band h
  obtain ⟨h2, h⟩ := band h
  obtain ⟨h3, h⟩ := band h
  obtain ⟨h4, h⟩ := band h
  obtain ⟨h5, h⟩ := band h
  obtain ⟨h6, h⟩ := band h
  obtain ⟨h7, h8⟩ := band h
  obtain ⟨oc, od, kV, doc, pm, an, cdv, ct, osl, e, lk, hcd⟩ := F.ex
  refine ⟨g, ⟨B, newId, initId, tl, eb, tf, exClsB_ok h1⟩, He.eqO_ok h2, He.eqO_ok h3, He.eqO_ok h4, of_decide_eq_true h5, h6, of_decide_eq_true h7, of_decide_eq_true h8, n1, n2, ?_⟩
  rw [hb, hs] at e
  exact ⟨qual, oc, od, fd, _, _, _, _, _, _, cdv, _, osl, q1, q2, q3, q4, e, lk, hcd, b⟩
theorem fb_own0 {x : Str} {bm : List Value} {newId initId B : String} (h : (Fb.own0 x bm newId).ok K = true) (g : mg x = some (.ref (He.ga K x))) (eb : ExcBaseFacts B newId initId bm) : Own0 K mg x (He.ga K x) := by
  obtain ⟨h1, h⟩ := band h
  obtain ⟨h2, h⟩ := band h
  obtain ⟨h3, h4⟩ := band h
  exact ⟨⟨B, newId, initId, bm, eb, h1⟩, g, h2, of_decide_eq_true h3, of_decide_eq_true h4⟩
theorem fb_got {x y : Str} {three cs : List Str} {ts : List String} {bs : List Bool} (h : (Fb.got x three cs ts bs).ok K = true) (hi : (Fb.ins y).ok K = true) : Caught K (He.ga K x) (three.map (clsV K)) (cs.map (clsV K) ++ ts.map Value.type) bs := by
  obtain ⟨h1, h⟩ := band h
  obtain ⟨h2, h⟩ := band h
  obtain ⟨h3, h⟩ := band h
  obtain ⟨h4, h5⟩ := band h
  have xf := xfB_ok h1
  have i := fb_ins hi
  exact ⟨⟨xf.ga, xf.gg, xf.exC, xf.hdC, He.eqO_ok h2, i.hn, i.ht, of_decide_eq_true h3⟩, xf, of_decide_eq_true h4, of_decide_eq_true h5⟩
end
end Spf
end
section
set_option maxHeartbeats 4000000
/-! The text's facts from the head's. -/
namespace Spf
open PySem PySem.Spec PyProof.Rows L2 L2H HotX LamX NdefX
theorem txt_of {K : PySem.W.Frag} {mg : Str → Option Value} {h : Heap} (X : K.In h) (G : h.Ns mainGlobals mg) (c : SaysS hdD hdA hdB hdT h K) : ∃ T : TxtA K mg, T.bSet.f = He.fAd K ("Book", some "__setitem__") ∧ T.l_behind.f = He.fAd K ("_law_behind", none) ∧ T.l_nested.f = He.fAd K ("_law_nested", none) := by
  obtain ⟨tLETTERS, hLETTERS⟩ := He.str_ok X G (c.fa_ 24 rfl)
  obtain ⟨tDIGITS, hDIGITS⟩ := He.str_ok X G (c.fa_ 25 rfl)
  obtain ⟨tSIGNS, hSIGNS⟩ := He.str_ok X G (c.fa_ 26 rfl)
  obtain ⟨tLEAST_BASE, hLEAST_BASE⟩ := He.int_ok X G (c.fa_ 27 rfl)
  obtain ⟨tMOST_BASE, hMOST_BASE⟩ := He.int_ok X G (c.fa_ 28 rfl)
  obtain ⟨tMOST_PLACES, hMOST_PLACES⟩ := He.int_ok X G (c.fa_ 29 rfl)
  obtain ⟨tLONGEST_NAME, hLONGEST_NAME⟩ := He.int_ok X G (c.fa_ 30 rfl)
  obtain ⟨fdis_integer, Fis_integer⟩ := c.def_ 0 (d := dGlo 22 "is_integer") rfl
  obtain ⟨fdis_within, Fis_within⟩ := c.def_ 1 (d := dGlo 23 "is_within") rfl
  obtain ⟨fdis_name, Fis_name⟩ := c.def_ 2 (d := dGlo 24 "is_name") rfl
  obtain ⟨fdcheck_name, Fcheck_name⟩ := c.def_ 3 (d := dGlo 25 "check_name") rfl
  obtain ⟨fdpowers_of, Fpowers_of⟩ := c.def_ 4 (d := dGlo 29 "powers_of") rfl
  obtain ⟨fdis_spelled, Fis_spelled⟩ := c.def_ 5 (d := dGlo 32 "is_spelled") rfl
  obtain ⟨fdfigures_of, Ffigures_of⟩ := c.def_ 6 (d := dGlo 33 "figures_of") rfl
  obtain ⟨fdspelled, Fspelled⟩ := c.def_ 7 (d := dGlo 34 "spelled") rfl
  obtain ⟨fdspreads_of, Fspreads_of⟩ := c.def_ 8 (d := dGlo 36 "spreads_of") rfl
  obtain ⟨fdweights_of, Fweights_of⟩ := c.def_ 9 (d := dGlo 37 "weights_of") rfl
  obtain ⟨fdfall_value, Ffall_value⟩ := c.def_ 10 (d := dGlo 38 "fall_value") rfl
  obtain ⟨fdfall_from, Ffall_from⟩ := c.def_ 11 (d := dGlo 39 "fall_from") rfl
  obtain ⟨fdnext_word, Fnext_word⟩ := c.def_ 12 (d := dGlo 40 "next_word") rfl
  obtain ⟨fdway_of, Fway_of⟩ := c.def_ 13 (d := dGlo 41 "way_of") rfl
  obtain ⟨fdturned, Fturned⟩ := c.def_ 14 (d := dGlo 43 "turned") rfl
  obtain ⟨fdring_from, Fring_from⟩ := c.def_ 15 (d := dGlo 44 "ring_from") rfl
  obtain ⟨fdsteps_from, Fsteps_from⟩ := c.def_ 16 (d := dGlo 45 "steps_from") rfl
  obtain ⟨fdis_wish, Fis_wish⟩ := c.def_ 17 (d := dGlo 50 "is_wish") rfl
  obtain ⟨fdis_entry, Fis_entry⟩ := c.def_ 18 (d := dGlo 51 "is_entry") rfl
  obtain ⟨fdholds, Fholds⟩ := c.def_ 19 (d := dGlo 52 "holds") rfl
  obtain ⟨fdcheck_wishes, Fcheck_wishes⟩ := c.def_ 20 (d := dGlo 53 "check_wishes") rfl
  obtain ⟨fdl_well, Fl_well⟩ := c.def_ 21 (d := dGlo 56 "_law_well") rfl
  obtain ⟨fdl_dip, Fl_dip⟩ := c.def_ 22 (d := dGlo 57 "_law_dip") rfl
  obtain ⟨fdl_mixed, Fl_mixed⟩ := c.def_ 23 (d := dGlo 58 "_law_mixed") rfl
  obtain ⟨fdl_ground, Fl_ground⟩ := c.def_ 24 (d := dGlo 59 "_law_ground") rfl
  obtain ⟨fdl_size, Fl_size⟩ := c.def_ 25 (d := dGlo 60 "_law_size") rfl
  obtain ⟨fdl_number, Fl_number⟩ := c.def_ 26 (d := dGlo 61 "_law_number") rfl
  obtain ⟨fdl_spell, Fl_spell⟩ := c.def_ 27 (d := dGlo 62 "_law_spell") rfl
  obtain ⟨fdl_next, Fl_next⟩ := c.def_ 28 (d := dGlo 63 "_law_next") rfl
  obtain ⟨fdl_drawn_word, Fl_drawn_word⟩ := c.def_ 29 (d := dGlo 64 "_law_drawn_word") rfl
  obtain ⟨fdl_path, Fl_path⟩ := c.def_ 30 (d := dGlo 65 "_law_path") rfl
  obtain ⟨fdl_ring, Fl_ring⟩ := c.def_ 31 (d := dGlo 66 "_law_ring") rfl
  obtain ⟨fdl_spreads, Fl_spreads⟩ := c.def_ 32 (d := dGlo 67 "_law_spreads") rfl
  obtain ⟨fdl_of, Fl_of⟩ := c.def_ 33 (d := dGlo 68 "_law_of") rfl
  obtain ⟨fdl_made, Fl_made⟩ := c.def_ 34 (d := dGlo 69 "_law_made") rfl
  obtain ⟨fdl_keeps, Fl_keeps⟩ := c.def_ 35 (d := dGlo 70 "_law_keeps") rfl
  obtain ⟨fdl_broken, Fl_broken⟩ := c.def_ 36 (d := dGlo 71 "_law_broken") rfl
  obtain ⟨fdl_due, Fl_due⟩ := c.def_ 37 (d := dGlo 72 "_law_due") rfl
  obtain ⟨fdl_put, Fl_put⟩ := c.def_ 38 (d := dGlo 73 "_law_put") rfl
  obtain ⟨fdl_do, Fl_do⟩ := c.def_ 39 (d := dGlo 74 "_law_do") rfl
  obtain ⟨fdl_told, Fl_told⟩ := c.def_ 40 (d := dGlo 75 "_law_told") rfl
  obtain ⟨fdl_word, Fl_word⟩ := c.def_ 41 (d := dGlo 76 "_law_word") rfl
  obtain ⟨fdl_fits, Fl_fits⟩ := c.def_ 42 (d := dGlo 77 "_law_fits") rfl
  obtain ⟨fdl_behind, Fl_behind⟩ := c.def_ 43 (d := dGlo 78 "_law_behind") rfl
  obtain ⟨fdl_near, Fl_near⟩ := c.def_ 44 (d := dGlo 79 "_law_near") rfl
  obtain ⟨fdl_entries, Fl_entries⟩ := c.def_ 45 (d := dGlo 80 "_law_entries") rfl
  obtain ⟨fdl_hope, Fl_hope⟩ := c.def_ 46 (d := dGlo 81 "_law_hope") rfl
  obtain ⟨fdl_deed, Fl_deed⟩ := c.def_ 47 (d := dGlo 82 "_law_deed") rfl
  obtain ⟨fdl_nested, Fl_nested⟩ := c.def_ 48 (d := dGlo 83 "_law_nested") rfl
  obtain ⟨fdl_right, Fl_right⟩ := c.def_ 49 (d := dGlo 84 "_law_right") rfl
  obtain ⟨fdlaw, Flaw⟩ := c.def_ 50 (d := dGlo 85 "law") rfl
  obtain ⟨fdfInit, FfInit⟩ := c.def_ 51 (d := dMet "Field" 31 "__init__" "Field.__init__" 0) rfl
  obtain ⟨fdfBase, FfBase⟩ := c.def_ 52 (d := dPrp "Field" 31 "base" "Field.base" 2) rfl
  obtain ⟨fdfPlaces, FfPlaces⟩ := c.def_ 53 (d := dPrp "Field" 31 "places" "Field.places" 3) rfl
  obtain ⟨fdfFigures, FfFigures⟩ := c.def_ 54 (d := dPrp "Field" 31 "figures" "Field.figures" 4) rfl
  obtain ⟨fdfEq, FfEq⟩ := c.def_ 55 (d := dMet "Field" 31 "__eq__" "Field.__eq__" 7) rfl
  obtain ⟨fdmInit, FmInit⟩ := c.def_ 56 (d := dMet "Mark" 47 "__init__" "Mark.__init__" 0) rfl
  obtain ⟨fdaInit, FaInit⟩ := c.def_ 57 (d := dMet "Attempt" 48 "__init__" "Attempt.__init__" 0) rfl
  obtain ⟨fdaEnter, FaEnter⟩ := c.def_ 58 (d := dMet "Attempt" 48 "__enter__" "Attempt.__enter__" 1) rfl
  obtain ⟨fdaExit, FaExit⟩ := c.def_ 59 (d := dMet "Attempt" 48 "__exit__" "Attempt.__exit__" 2) rfl
  obtain ⟨fdbInit, FbInit⟩ := c.def_ 60 (d := dMet "Book" 54 "__init__" "Book.__init__" 0) rfl
  obtain ⟨fdbEntries, FbEntries⟩ := c.def_ 61 (d := dPrp "Book" 54 "entries" "Book.entries" 1) rfl
  obtain ⟨fdbNames, FbNames⟩ := c.def_ 62 (d := dPrp "Book" 54 "names" "Book.names" 2) rfl
  obtain ⟨fdbWishes, FbWishes⟩ := c.def_ 63 (d := dPrp "Book" 54 "wishes" "Book.wishes" 3) rfl
  obtain ⟨fdbChanges, FbChanges⟩ := c.def_ 64 (d := dPrp "Book" 54 "changes" "Book.changes" 4) rfl
  obtain ⟨fdbSet, FbSet⟩ := c.def_ 65 (d := dMet "Book" 54 "__setitem__" "Book.__setitem__" 5) rfl
  obtain ⟨fdbGet, FbGet⟩ := c.def_ 66 (d := dMet "Book" 54 "__getitem__" "Book.__getitem__" 6) rfl
  obtain ⟨fdbWish, FbWish⟩ := c.def_ 67 (d := dMet "Book" 54 "wish" "Book.wish" 8) rfl
  obtain ⟨fdbLift, FbLift⟩ := c.def_ 68 (d := dMet "Book" 54 "lift" "Book.lift" 9) rfl
  obtain ⟨fdbUndo, FbUndo⟩ := c.def_ 69 (d := dMet "Book" 54 "undo" "Book.undo" 10) rfl
  obtain ⟨fdbTrial, FbTrial⟩ := c.def_ 70 (d := dMet "Book" 54 "trial" "Book.trial" 11) rfl
  obtain ⟨fdbTried, FbTried⟩ := c.def_ 71 (d := dMet "Book" 54 "tried" "Book.tried" 12) rfl
  obtain ⟨fdbHas, FbHas⟩ := c.def_ 72 (d := dMet "Book" 54 "__contains__" "Book.__contains__" 13) rfl
  obtain ⟨fdbLen, FbLen⟩ := c.def_ 73 (d := dMet "Book" 54 "__len__" "Book.__len__" 14) rfl
  obtain ⟨fdbBool, FbBool⟩ := c.def_ 74 (d := dMet "Book" 54 "__bool__" "Book.__bool__" 15) rfl
  obtain ⟨fdxII, FxII⟩ := c.def_ 75 (d := dMet "InvalidIndex" 6 "__init__" "InvalidIndex.__init__" 0) rfl
  obtain ⟨fdxUN, FxUN⟩ := c.def_ 76 (d := dMet "UnknownName" 11 "__init__" "UnknownName.__init__" 0) rfl
  obtain ⟨fdxBr, FxBr⟩ := c.def_ 77 (d := dMet "Broken" 14 "__init__" "Broken.__init__" 0) rfl
  exact ⟨{
    len := He.free_ok X G (c.fa_ 0 rfl),
    range := He.free_ok X G (c.fa_ 1 rfl),
    int := He.free_ok X G (c.fa_ 2 rfl),
    str := He.free_ok X G (c.fa_ 3 rfl),
    abs := He.free_ok X G (c.fa_ 4 rfl),
    divmod := He.free_ok X G (c.fa_ 5 rfl),
    sorted := He.free_ok X G (c.fa_ 6 rfl),
    list := He.free_ok X G (c.fa_ 7 rfl),
    tuple := He.free_ok X G (c.fa_ 8 rfl),
    min := He.free_ok X G (c.fa_ 9 rfl),
    max := He.free_ok X G (c.fa_ 10 rfl),
    sum := He.free_ok X G (c.fa_ 11 rfl),
    zip := He.free_ok X G (c.fa_ 12 rfl),
    all := He.free_ok X G (c.fa_ 13 rfl),
    enumerate := He.free_ok X G (c.fa_ 14 rfl),
    dict := He.free_ok X G (c.fa_ 15 rfl),
    isinstance := He.free_ok X G (c.fa_ 16 rfl),
    bool := He.free_ok X G (c.fa_ 17 rfl),
    repr := He.free_ok X G (c.fa_ 18 rfl),
    TypeError := He.free_ok X G (c.fa_ 19 rfl),
    KeyError := He.free_ok X G (c.fa_ 20 rfl),
    ValueError := He.free_ok X G (c.fa_ 21 rfl),
    LookupError := He.free_ok X G (c.fa_ 22 rfl),
    ArithmeticError := He.free_ok X G (c.fa_ 23 rfl),
    tLETTERS := tLETTERS,
    LETTERS := hLETTERS,
    tDIGITS := tDIGITS,
    DIGITS := hDIGITS,
    tSIGNS := tSIGNS,
    SIGNS := hSIGNS,
    tLEAST_BASE := tLEAST_BASE,
    LEAST_BASE := hLEAST_BASE,
    tMOST_BASE := tMOST_BASE,
    MOST_BASE := hMOST_BASE,
    tMOST_PLACES := tMOST_PLACES,
    MOST_PLACES := hMOST_PLACES,
    tLONGEST_NAME := tLONGEST_NAME,
    LONGEST_NAME := hLONGEST_NAME,
    is_integer := ⟨_, fdis_integer, Fis_integer, (He.glo_ok X G (c.fa_ 31 rfl)), Fis_integer.kp, fun_binds Fis_integer fun _ _ _ _ _ _ us hl => match us, hl with | [_], _ => rfl⟩,
    is_within := ⟨_, fdis_within, Fis_within, (He.glo_ok X G (c.fa_ 32 rfl)), Fis_within.kp, fun_binds Fis_within fun _ _ _ _ _ _ us hl => match us, hl with | [_, _, _], _ => rfl⟩,
    is_name := ⟨_, fdis_name, Fis_name, (He.glo_ok X G (c.fa_ 33 rfl)), Fis_name.kp, fun_binds Fis_name fun _ _ _ _ _ _ us hl => match us, hl with | [_], _ => rfl⟩,
    check_name := ⟨_, fdcheck_name, Fcheck_name, (He.glo_ok X G (c.fa_ 34 rfl)), Fcheck_name.kp, fun_binds Fcheck_name fun _ _ _ _ _ _ us hl => match us, hl with | [_], _ => rfl⟩,
    powers_of := ⟨_, fdpowers_of, Fpowers_of, (He.glo_ok X G (c.fa_ 35 rfl)), Fpowers_of.kp, fun_binds Fpowers_of fun _ _ _ _ _ _ us hl => match us, hl with | [_, _], _ => rfl⟩,
    is_spelled := ⟨_, fdis_spelled, Fis_spelled, (He.glo_ok X G (c.fa_ 36 rfl)), Fis_spelled.kp, fun_binds Fis_spelled fun _ _ _ _ _ _ us hl => match us, hl with | [_, _], _ => rfl⟩,
    figures_of := ⟨_, fdfigures_of, Ffigures_of, (He.glo_ok X G (c.fa_ 37 rfl)), Ffigures_of.kp, fun_binds Ffigures_of fun _ _ _ _ _ _ us hl => match us, hl with | [_], _ => rfl⟩,
    spelled := ⟨_, fdspelled, Fspelled, (He.glo_ok X G (c.fa_ 38 rfl)), Fspelled.kp, fun_binds Fspelled fun _ _ _ _ _ _ us hl => match us, hl with | [_, _], _ => rfl⟩,
    spreads_of := ⟨_, fdspreads_of, Fspreads_of, (He.glo_ok X G (c.fa_ 39 rfl)), Fspreads_of.kp, fun_binds Fspreads_of fun _ _ _ _ _ _ us hl => match us, hl with | [_], _ => rfl⟩,
    weights_of := ⟨_, fdweights_of, Fweights_of, (He.glo_ok X G (c.fa_ 40 rfl)), Fweights_of.kp, fun_binds Fweights_of fun _ _ _ _ _ _ us hl => match us, hl with | [_], _ => rfl⟩,
    fall_value := ⟨_, fdfall_value, Ffall_value, (He.glo_ok X G (c.fa_ 41 rfl)), Ffall_value.kp, fun_binds Ffall_value fun _ _ _ _ _ _ us hl => match us, hl with | [_, _], _ => rfl⟩,
    fall_from := ⟨_, fdfall_from, Ffall_from, (He.glo_ok X G (c.fa_ 42 rfl)), Ffall_from.kp, fun_binds Ffall_from fun _ _ _ _ _ _ us hl => match us, hl with | [_, _], _ => rfl⟩,
    next_word := ⟨_, fdnext_word, Fnext_word, (He.glo_ok X G (c.fa_ 43 rfl)), Fnext_word.kp, fun_binds Fnext_word fun _ _ _ _ _ _ us hl => match us, hl with | [_, _], _ => rfl⟩,
    way_of := ⟨_, fdway_of, Fway_of, (He.glo_ok X G (c.fa_ 44 rfl)), Fway_of.kp, fun_binds Fway_of fun _ _ _ _ _ _ us hl => match us, hl with | [_, _], _ => rfl⟩,
    turned := ⟨_, fdturned, Fturned, (He.glo_ok X G (c.fa_ 45 rfl)), Fturned.kp, fun_binds Fturned fun _ _ _ _ _ _ us hl => match us, hl with | [_], _ => rfl⟩,
    ring_from := ⟨_, fdring_from, Fring_from, (He.glo_ok X G (c.fa_ 46 rfl)), Fring_from.kp, fun_binds Fring_from fun _ _ _ _ _ _ us hl => match us, hl with | [_, _], _ => rfl⟩,
    steps_from := ⟨_, fdsteps_from, Fsteps_from, (He.glo_ok X G (c.fa_ 47 rfl)), Fsteps_from.kp, fun_binds Fsteps_from fun _ _ _ _ _ _ us hl => match us, hl with | [_, _], _ => rfl⟩,
    is_wish := ⟨_, fdis_wish, Fis_wish, (He.glo_ok X G (c.fa_ 48 rfl)), Fis_wish.kp, fun_binds Fis_wish fun _ _ _ _ _ _ us hl => match us, hl with | [_], _ => rfl⟩,
    is_entry := ⟨_, fdis_entry, Fis_entry, (He.glo_ok X G (c.fa_ 49 rfl)), Fis_entry.kp, fun_binds Fis_entry fun _ _ _ _ _ _ us hl => match us, hl with | [_], _ => rfl⟩,
    holds := ⟨_, fdholds, Fholds, (He.glo_ok X G (c.fa_ 50 rfl)), Fholds.kp, fun_binds Fholds fun _ _ _ _ _ _ us hl => match us, hl with | [_, _], _ => rfl⟩,
    check_wishes := ⟨_, fdcheck_wishes, Fcheck_wishes, (He.glo_ok X G (c.fa_ 51 rfl)), Fcheck_wishes.kp, fun_binds Fcheck_wishes fun _ _ _ _ _ _ us hl => match us, hl with | [_, _], _ => rfl⟩,
    l_well := ⟨_, fdl_well, Fl_well, (He.glo_ok X G (c.fa_ 52 rfl)), Fl_well.kp, fun_binds Fl_well fun _ _ _ _ _ _ us hl => match us, hl with | [_, _], _ => rfl⟩,
    l_dip := ⟨_, fdl_dip, Fl_dip, (He.glo_ok X G (c.fa_ 53 rfl)), Fl_dip.kp, fun_binds Fl_dip fun _ _ _ _ _ _ us hl => match us, hl with | [_, _], _ => rfl⟩,
    l_mixed := ⟨_, fdl_mixed, Fl_mixed, (He.glo_ok X G (c.fa_ 54 rfl)), Fl_mixed.kp, fun_binds Fl_mixed fun _ _ _ _ _ _ us hl => match us, hl with | [_, _], _ => rfl⟩,
    l_ground := ⟨_, fdl_ground, Fl_ground, (He.glo_ok X G (c.fa_ 55 rfl)), Fl_ground.kp, fun_binds Fl_ground fun _ _ _ _ _ _ us hl => match us, hl with | [_, _], _ => rfl⟩,
    l_size := ⟨_, fdl_size, Fl_size, (He.glo_ok X G (c.fa_ 56 rfl)), Fl_size.kp, fun_binds Fl_size fun _ _ _ _ _ _ us hl => match us, hl with | [_, _], _ => rfl⟩,
    l_number := ⟨_, fdl_number, Fl_number, (He.glo_ok X G (c.fa_ 57 rfl)), Fl_number.kp, fun_binds Fl_number fun _ _ _ _ _ _ us hl => match us, hl with | [_, _], _ => rfl⟩,
    l_spell := ⟨_, fdl_spell, Fl_spell, (He.glo_ok X G (c.fa_ 58 rfl)), Fl_spell.kp, fun_binds Fl_spell fun _ _ _ _ _ _ us hl => match us, hl with | [_, _, _], _ => rfl⟩,
    l_next := ⟨_, fdl_next, Fl_next, (He.glo_ok X G (c.fa_ 59 rfl)), Fl_next.kp, fun_binds Fl_next fun _ _ _ _ _ _ us hl => match us, hl with | [_, _], _ => rfl⟩,
    l_drawn_word := ⟨_, fdl_drawn_word, Fl_drawn_word, (He.glo_ok X G (c.fa_ 60 rfl)), Fl_drawn_word.kp, fun_binds Fl_drawn_word fun _ _ _ _ _ _ us hl => match us, hl with | [_, _, _], _ => rfl⟩,
    l_path := ⟨_, fdl_path, Fl_path, (He.glo_ok X G (c.fa_ 61 rfl)), Fl_path.kp, fun_binds Fl_path fun _ _ _ _ _ _ us hl => match us, hl with | [_, _], _ => rfl⟩,
    l_ring := ⟨_, fdl_ring, Fl_ring, (He.glo_ok X G (c.fa_ 62 rfl)), Fl_ring.kp, fun_binds Fl_ring fun _ _ _ _ _ _ us hl => match us, hl with | [_, _], _ => rfl⟩,
    l_spreads := ⟨_, fdl_spreads, Fl_spreads, (He.glo_ok X G (c.fa_ 63 rfl)), Fl_spreads.kp, fun_binds Fl_spreads fun _ _ _ _ _ _ us hl => match us, hl with | [_], _ => rfl⟩,
    l_of := ⟨_, fdl_of, Fl_of, (He.glo_ok X G (c.fa_ 64 rfl)), Fl_of.kp, fun_binds Fl_of fun _ _ _ _ _ _ us hl => match us, hl with | [_, _], _ => rfl⟩,
    l_made := ⟨_, fdl_made, Fl_made, (He.glo_ok X G (c.fa_ 65 rfl)), Fl_made.kp, fun_binds Fl_made fun _ _ _ _ _ _ us hl => match us, hl with | [_], _ => rfl⟩,
    l_keeps := ⟨_, fdl_keeps, Fl_keeps, (He.glo_ok X G (c.fa_ 66 rfl)), Fl_keeps.kp, fun_binds Fl_keeps fun _ _ _ _ _ _ us hl => match us, hl with | [_, _], _ => rfl⟩,
    l_broken := ⟨_, fdl_broken, Fl_broken, (He.glo_ok X G (c.fa_ 67 rfl)), Fl_broken.kp, fun_binds Fl_broken fun _ _ _ _ _ _ us hl => match us, hl with | [_, _], _ => rfl⟩,
    l_due := ⟨_, fdl_due, Fl_due, (He.glo_ok X G (c.fa_ 68 rfl)), Fl_due.kp, fun_binds Fl_due fun _ _ _ _ _ _ us hl => match us, hl with | [_, _], _ => rfl⟩,
    l_put := ⟨_, fdl_put, Fl_put, (He.glo_ok X G (c.fa_ 69 rfl)), Fl_put.kp, fun_binds Fl_put fun _ _ _ _ _ _ us hl => match us, hl with | [_, _, _], _ => rfl⟩,
    l_do := ⟨_, fdl_do, Fl_do, (He.glo_ok X G (c.fa_ 70 rfl)), Fl_do.kp, fun_binds Fl_do fun _ _ _ _ _ _ us hl => match us, hl with | [_, _, _], _ => rfl⟩,
    l_told := ⟨_, fdl_told, Fl_told, (He.glo_ok X G (c.fa_ 71 rfl)), Fl_told.kp, fun_binds Fl_told fun _ _ _ _ _ _ us hl => match us, hl with | [_], _ => rfl⟩,
    l_word := ⟨_, fdl_word, Fl_word, (He.glo_ok X G (c.fa_ 72 rfl)), Fl_word.kp, fun_binds Fl_word fun _ _ _ _ _ _ us hl => match us, hl with | [_], _ => rfl⟩,
    l_fits := ⟨_, fdl_fits, Fl_fits, (He.glo_ok X G (c.fa_ 73 rfl)), Fl_fits.kp, fun_binds Fl_fits fun _ _ _ _ _ _ us hl => match us, hl with | [_, _], _ => rfl⟩,
    l_behind := ⟨_, fdl_behind, Fl_behind, (He.glo_ok X G (c.fa_ 74 rfl)), Fl_behind.kp, fun_binds Fl_behind fun _ _ _ _ _ _ us hl => match us, hl with | [_, _, _, _], _ => rfl⟩,
    l_near := ⟨_, fdl_near, Fl_near, (He.glo_ok X G (c.fa_ 75 rfl)), Fl_near.kp, fun_binds Fl_near fun _ _ _ _ _ _ us hl => match us, hl with | [_, _], _ => rfl⟩,
    l_entries := ⟨_, fdl_entries, Fl_entries, (He.glo_ok X G (c.fa_ 76 rfl)), Fl_entries.kp, fun_binds Fl_entries fun _ _ _ _ _ _ us hl => match us, hl with | [_], _ => rfl⟩,
    l_hope := ⟨_, fdl_hope, Fl_hope, (He.glo_ok X G (c.fa_ 77 rfl)), Fl_hope.kp, fun_binds Fl_hope fun _ _ _ _ _ _ us hl => match us, hl with | [_, _, _], _ => rfl⟩,
    l_deed := ⟨_, fdl_deed, Fl_deed, (He.glo_ok X G (c.fa_ 78 rfl)), Fl_deed.kp, fun_binds Fl_deed fun _ _ _ _ _ _ us hl => match us, hl with | [_, _, _], _ => rfl⟩,
    l_nested := ⟨_, fdl_nested, Fl_nested, (He.glo_ok X G (c.fa_ 79 rfl)), Fl_nested.kp, fun_binds Fl_nested fun _ _ _ _ _ _ us hl => match us, hl with | [_, _, _, _, _], _ => rfl⟩,
    l_right := ⟨_, fdl_right, Fl_right, (He.glo_ok X G (c.fa_ 80 rfl)), Fl_right.kp, fun_binds Fl_right fun _ _ _ _ _ _ us hl => match us, hl with | [_], _ => rfl⟩,
    law := ⟨_, fdlaw, Flaw, (He.glo_ok X G (c.fa_ 81 rfl)), Flaw.kp, fun_binds Flaw fun _ _ _ _ _ _ us hl => match us, hl with | [_], _ => rfl⟩,
    Field := ⟨He.ga K "Field", He.cls_ok (c.fa_ 82 rfl), (He.glo_ok X G (c.fa_ 83 rfl))⟩,
    fInit := ⟨_, fdfInit, FfInit, He.mkr_ok (c.fa_ 84 rfl), fun_binds FfInit fun _ _ _ _ _ _ us hl => match us, hl with | [_, _, _], _ => rfl⟩,
    fBase := ⟨_, _, fdfBase, FfBase, fb_prop (c.fb_ 0 rfl), fun_binds FfBase fun _ _ _ _ _ _ us hl => match us, hl with | [_], _ => rfl⟩,
    fPlaces := ⟨_, _, fdfPlaces, FfPlaces, fb_prop (c.fb_ 1 rfl), fun_binds FfPlaces fun _ _ _ _ _ _ us hl => match us, hl with | [_], _ => rfl⟩,
    fFigures := ⟨_, _, fdfFigures, FfFigures, fb_prop (c.fb_ 2 rfl), fun_binds FfFigures fun _ _ _ _ _ _ us hl => match us, hl with | [_], _ => rfl⟩,
    fEq := ⟨_, fdfEq, FfEq, He.meth_ok (c.fa_ 85 rfl), c.fb_ 3 rfl, fun_binds FfEq fun _ _ _ _ _ _ us hl => match us, hl with | [_, _], _ => rfl⟩,
    fNe := He.eqO_ok (c.fb_ 4 rfl),
    fIns := fb_ins (c.fb_ 5 rfl),
    noRoot := He.noat_ok (c.fa_ 86 rfl),
    noWidth := He.noat_ok (c.fa_ 87 rfl),
    noMany := He.noat_ok (c.fa_ 88 rfl),
    Mark := ⟨He.ga K "Mark", He.cls_ok (c.fa_ 89 rfl), (He.glo_ok X G (c.fa_ 90 rfl))⟩,
    mInit := ⟨_, fdmInit, FmInit, He.mkr_ok (c.fa_ 91 rfl), fun_binds FmInit fun _ _ _ _ _ _ us hl => match us, hl with | [_, _, _], _ => rfl⟩,
    noMStates := He.noat_ok (c.fa_ 92 rfl),
    noBefore := He.noat_ok (c.fa_ 93 rfl),
    Attempt := ⟨He.ga K "Attempt", He.cls_ok (c.fa_ 94 rfl), (He.glo_ok X G (c.fa_ 95 rfl))⟩,
    aInit := ⟨_, fdaInit, FaInit, He.mkr_ok (c.fa_ 96 rfl), fun_binds FaInit fun _ _ _ _ _ _ us hl => match us, hl with | [_, _], _ => rfl⟩,
    aEnter := ⟨_, fdaEnter, FaEnter, He.meth_ok (c.fa_ 97 rfl), c.fb_ 6 rfl, fun_binds FaEnter fun _ _ _ _ _ _ us hl => match us, hl with | [_], _ => rfl⟩,
    aExit := ⟨_, fdaExit, FaExit, He.meth_ok (c.fa_ 98 rfl), c.fb_ 7 rfl, fun_binds FaExit fun _ _ _ _ _ _ us hl => match us, hl with | [_, _, _, _], _ => rfl⟩,
    noHolder := He.noat_ok (c.fa_ 99 rfl),
    noMark := He.noat_ok (c.fa_ 100 rfl),
    Book := ⟨He.ga K "Book", He.cls_ok (c.fa_ 101 rfl), (He.glo_ok X G (c.fa_ 102 rfl))⟩,
    bInit := ⟨_, fdbInit, FbInit, He.mkr_ok (c.fa_ 103 rfl), fun_binds FbInit fun _ _ _ _ _ _ us hl => match us, hl with | [_], _ => rfl⟩,
    bEntries := ⟨_, _, fdbEntries, FbEntries, fb_prop (c.fb_ 8 rfl), fun_binds FbEntries fun _ _ _ _ _ _ us hl => match us, hl with | [_], _ => rfl⟩,
    bNames := ⟨_, _, fdbNames, FbNames, fb_prop (c.fb_ 9 rfl), fun_binds FbNames fun _ _ _ _ _ _ us hl => match us, hl with | [_], _ => rfl⟩,
    bWishes := ⟨_, _, fdbWishes, FbWishes, fb_prop (c.fb_ 10 rfl), fun_binds FbWishes fun _ _ _ _ _ _ us hl => match us, hl with | [_], _ => rfl⟩,
    bChanges := ⟨_, _, fdbChanges, FbChanges, fb_prop (c.fb_ 11 rfl), fun_binds FbChanges fun _ _ _ _ _ _ us hl => match us, hl with | [_], _ => rfl⟩,
    bSet := ⟨_, fdbSet, FbSet, He.meth_ok (c.fa_ 104 rfl), c.fb_ 12 rfl, fun_binds FbSet fun _ _ _ _ _ _ us hl => match us, hl with | [_, _, _], _ => rfl⟩,
    bGet := ⟨_, fdbGet, FbGet, He.meth_ok (c.fa_ 105 rfl), c.fb_ 13 rfl, fun_binds FbGet fun _ _ _ _ _ _ us hl => match us, hl with | [_, _], _ => rfl⟩,
    bWish := ⟨_, fdbWish, FbWish, He.meth_ok (c.fa_ 106 rfl), c.fb_ 14 rfl, fun_binds FbWish fun _ _ _ _ _ _ us hl => match us, hl with | [_, _], _ => rfl⟩,
    bLift := ⟨_, fdbLift, FbLift, He.meth_ok (c.fa_ 107 rfl), c.fb_ 15 rfl, fun_binds FbLift fun _ _ _ _ _ _ us hl => match us, hl with | [_, _], _ => rfl⟩,
    bUndo := ⟨_, fdbUndo, FbUndo, He.meth_ok (c.fa_ 108 rfl), c.fb_ 16 rfl, fun_binds FbUndo fun _ _ _ _ _ _ us hl => match us, hl with | [_], _ => rfl⟩,
    bTrial := ⟨_, fdbTrial, FbTrial, He.meth_ok (c.fa_ 109 rfl), c.fb_ 17 rfl, fun_binds FbTrial fun _ _ _ _ _ _ us hl => match us, hl with | [_], _ => rfl⟩,
    bTried := ⟨_, fdbTried, FbTried, He.meth_ok (c.fa_ 110 rfl), c.fb_ 18 rfl, fun_binds FbTried fun _ _ _ _ _ _ us hl => match us, hl with | [_, _], _ => rfl⟩,
    bHas := ⟨_, fdbHas, FbHas, He.meth_ok (c.fa_ 111 rfl), c.fb_ 19 rfl, fun_binds FbHas fun _ _ _ _ _ _ us hl => match us, hl with | [_, _], _ => rfl⟩,
    bLen := ⟨_, fdbLen, FbLen, He.meth_ok (c.fa_ 112 rfl), c.fb_ 20 rfl, fun_binds FbLen fun _ _ _ _ _ _ us hl => match us, hl with | [_], _ => rfl⟩,
    bBool := ⟨_, fdbBool, FbBool, He.meth_ok (c.fa_ 113 rfl), c.fb_ 21 rfl, fun_binds FbBool fun _ _ _ _ _ _ us hl => match us, hl with | [_], _ => rfl⟩,
    noStates := He.noat_ok (c.fa_ 114 rfl),
    bSeq := c.fb_ 22 rfl,
    IN := He.ga K "InvalidName",
    IW := He.ga K "InvalidWord",
    IWi := He.ga K "InvalidWish",
    II := He.ga K "InvalidIndex",
    UN := He.ga K "UnknownName",
    Br := He.ga K "Broken",
    NU := He.ga K "NothingToUndo",
    WV := He.ga K "WrongValue",
    WN := He.ga K "WrongName",
    NA := He.ga K "NoAnswer",
    gIN := (He.glo_ok X G (c.fa_ 115 rfl)),
    gIW := (He.glo_ok X G (c.fa_ 116 rfl)),
    gIWi := (He.glo_ok X G (c.fa_ 117 rfl)),
    gWV := (He.glo_ok X G (c.fa_ 118 rfl)),
    gWN := (He.glo_ok X G (c.fa_ 119 rfl)),
    gNA := (He.glo_ok X G (c.fa_ 120 rfl)),
    fII := He.ma K (He.ga K "InvalidIndex") "__init__",
    fUN := He.ma K (He.ga K "UnknownName") "__init__",
    fBr := He.ma K (He.ga K "Broken") "__init__",
    xII := fb_ex1 (c.fb_ 23 rfl) (He.glo_ok X G (c.fa_ 121 rfl)) FxII PySem.F.excBase_ValueError PySem.SpfX.tail_VE rfl rfl (fun_binds FxII fun _ _ _ _ _ _ us hl => match us, hl with | [_, _], _ => rfl) (by decide) (by decide),
    xUN := fb_ex1 (c.fb_ 24 rfl) (He.glo_ok X G (c.fa_ 122 rfl)) FxUN PySem.F.excBase_LookupError PySem.SpfX.tail_LE rfl rfl (fun_binds FxUN fun _ _ _ _ _ _ us hl => match us, hl with | [_, _], _ => rfl) (by decide) (by decide),
    xBr := fb_ex1 (c.fb_ 25 rfl) (He.glo_ok X G (c.fa_ 123 rfl)) FxBr PySem.F.excBase_ArithmeticError PySem.SpfX.tail_AE rfl rfl (fun_binds FxBr fun _ _ _ _ _ _ us hl => match us, hl with | [_, _], _ => rfl) (by decide) (by decide),
    xNU := fb_own0 (c.fb_ 26 rfl) (He.glo_ok X G (c.fa_ 124 rfl)) PySem.F.excBase_ArithmeticError,
    cII := fb_got (c.fb_ 27 rfl) (c.fb_ 5 rfl),
    cUN := fb_got (c.fb_ 28 rfl) (c.fb_ 5 rfl),
    cBr := fb_got (c.fb_ 29 rfl) (c.fb_ 5 rfl),
    cNU := fb_got (c.fb_ 30 rfl) (c.fb_ 5 rfl) }, rfl, rfl, rfl⟩
end Spf
end
section
set_option maxHeartbeats 4000000
/-! The law's call from outside, where no guard runs. -/
namespace Spf
open PySem PySem.Spec PyProof.Rows L2 L2H HotX LamX NdefX
/-- what is tracked at the outset: the script, if it is not written, and the empty tables -/
def outset (K : PySem.W.Frag) (Ps : List Addr) (a : Addr) (o : Obj) (xs : List V) : Hp := fun b => if b ∈ Ps then some (.tbl #[]) else if b = a ∧ K.lookup a = none then some (.frz o (.lst xs)) else none
theorem outset_in {K : PySem.W.Frag} {Ps : List Addr} {a : Addr} {o : Obj} {xs : List V} {b : Addr} {u : HO} (h : outset K Ps a o xs b = some u) : (b ∈ Ps ∧ u = .tbl #[]) ∨ (b ∉ Ps ∧ b = a ∧ K.lookup a = none ∧ u = .frz o (.lst xs)) := by
  unfold outset at h
  split at h
  · rename_i hb; cases h; exact .inl ⟨hb, rfl⟩
  · rename_i hb
    split at h
    · rename_i hc; cases h; exact .inr ⟨hb, hc.1, hc.2, rfl⟩
    · cases h
theorem law_callG {P : Program} {w : World} {K : PySem.W.Frag} {mg mb : Str → Option Value} {k : Nat} {fa a : Addr} {cs : List (Addr × Addr)} {fd : FuncData} {x : Str} {sp : Sp} {s₁ : Shared} {vs : List Value} {ns : List Int}
    (KX : K.In s₁.heap) (hns : s₁.heap.Ns mainGlobals mg) (hb : s₁.heap.Ns builtinsNs mb) (hbb : ∀ x : Str, x ≠ "__name__" → mb x = bootBuiltins x) (hlim : s₁.heap.NoLimit) (hg : s₁.gens = #[])
    (hT : ∀ p ∈ cs, s₁.heap.get? p.2 = some { cls := .none, data := .fields #[] }) (nT : ∀ p ∈ cs, K.lookup p.2 = none) (C : ∀ p ∈ cs, PySem.W.CodeHd s₁.heap p.1 p.2)
    (hbm : ∃ (bm : Addr) (ob : Obj), mg "__builtins__" = some (.ref bm) ∧ bm ≠ builtinsNs ∧ s₁.heap.get? bm = some ob ∧ ob.cls = .type "module" ∧ ob.dict = some builtinsNs ∧ ob.data = .plain)
    (ha : s₁.heap.get? a = some { cls := .type "list", data := .seq vs.toArray }) (hi : IntsAre vs ns) (hl : ns.length ≤ sizeLine) (hr : Room k callerA) (hgd : callerA.guards = some [])
    (F : ∀ base : Heap, K.In base → base.Ns mainGlobals mg → (∀ p ∈ cs, TabB base mg p.1 p.2) → FnX P w K mg base CX0 true false k fa fd [x] sp) (hbind : ∀ (s : Shared) (u : Value), BindsTo s fd ⟨[u], []⟩ [(x, u)])
    (hsp : ∀ H : Hp, (∀ p ∈ cs, H p.2 = some (.tbl #[])) → SqL K H a (ns.map V.int) → sp [.ref a] H (fun v _ => v = .bl true) fun _ _ _ => False) :
    codeAny (model P w) callerA (.call (.ref fa) ⟨[.ref a], []⟩) (fun r s' => r = .ok (.ret (.bool true)) ∧ OldK s₁.heap s'.heap ∧ s'.os = s₁.os ∧ AllBare s'.gens) s₁ := by
  have rv := vals_ints hi
  have lenV := hi.length
  let Ps := cs.map (·.2)
  let H := outset K Ps a { cls := .type "list", data := .seq vs.toArray } (ns.map V.int)
  have mem : ∀ p ∈ cs, p.2 ∈ Ps := fun p hp => List.mem_map.mpr ⟨p, hp, rfl⟩
  have isT : ∀ b ∈ Ps, s₁.heap.get? b = some { cls := .none, data := .fields #[] } ∧ K.lookup b = none := fun b hb => by
    obtain ⟨p, hp, rfl⟩ := List.mem_map.mp hb
    exact ⟨hT p hp, nT p hp⟩
  have aT : a ∉ Ps := fun z => by
    have q := (isT a z).1
    rw [ha] at q
    cases q
  have HT : ∀ p ∈ cs, H p.2 = some (.tbl #[]) := fun p hp => if_pos (mem p hp)
  have HS : SqL K H a (ns.map V.int) := by
    cases hk : K.lookup a with
    | some o =>
      have e := KX a o hk
      rw [ha] at e
      cases e
      exact .inr ⟨_, vs.toArray, _, hk, rfl, rfl, rfl, by rw [List.size_toArray, lenV]; exact hl, by simpa using rv⟩
    | none => exact .inl (.inr ⟨{ cls := .type "list", data := .seq vs.toArray }, (if_neg aT).trans (if_pos ⟨rfl, hk⟩)⟩)
  have hok : HOk P w H s₁.heap := fun b u z => by
    rcases outset_in z with ⟨h1, rfl⟩ | ⟨_, rfl, _, rfl⟩
    · exact (isT b h1).1
    · exact ⟨ha, by rw [List.length_map]; exact hl, vs, _, rv, ha⟩
  -- an object that is no list and no table is not tracked
  have offH : ∀ {b : Addr} {o : Obj}, s₁.heap.get? b = some o → (∀ vs n, o.data ≠ .seq vs n) → o.data ≠ .fields #[] → H b = none := fun {b o} e h1 h2 => by
    cases q : H b with
    | none => rfl
    | some u =>
      rcases outset_in q with ⟨m, _⟩ | ⟨_, rfl, _, _⟩
      · rw [(isT b m).1] at e; cases e; exact absurd rfl h2
      · rw [ha] at e; cases e; exact absurd rfl (h1 _ _)
  have nsB : ∀ {b : Addr} {m : Str → Option Value}, s₁.heap.Ns b m → (hidT s₁.heap H).Ns b m := fun {b m} ⟨o, es, ep, e, d, r⟩ =>
    ⟨o, es, ep, hidT_get e (offH e (fun vs n z => by rw [d] at z; cases z) fun z => by rw [d] at z; cases z), d, r⟩
  have hKb : K.In (hidT s₁.heap H) := fun b o e => hidT_get (KX b o e) (by
    cases q : H b with
    | none => rfl
    | some u =>
      rcases outset_in q with ⟨m, _⟩ | ⟨_, rfl, hk, _⟩
      · rw [(isT b m).2] at e; cases e
      · rw [hk] at e; cases e)
  have hM : L2.Mod K mg (hidT s₁.heap H) := ⟨hKb, nsB hns, ⟨mb, nsB hb, hbb⟩, let ⟨mc, h1, h2⟩ := hlim; ⟨mc, nsB h1, h2⟩⟩
  have TB : ∀ p ∈ cs, TabB (hidT s₁.heap H) mg p.1 p.2 := fun p hp => by
    have hTp := hT p hp
    refine ⟨?_, ?_, fun z => ?_⟩
    · obtain ⟨o, us, file, tf, flags, tg, inF, text, tt, e1, r1, r2, r3, r⟩ := C p hp
      refine ⟨o, us, file, tf, flags, tg, inF, text, tt, hidT_get e1 (offH e1 (fun vs n z => by rw [r2] at z; cases z) fun z => ?_), r1, r2, r3, r⟩
      rw [r2] at z
      cases z
      simp at r3
    · obtain ⟨bm, ob, b1, b2, b3, b4, b5, b6⟩ := hbm
      refine ⟨bm, ob, b1, b2, fun q => ?_, fun q => ?_, hidT_get b3 (offH b3 (fun vs n z => by rw [b6] at z; cases z) fun z => by rw [b6] at z; cases z), b4, b5, b6⟩
      · obtain ⟨o, es, ep, e, hd, _⟩ := hns
        rw [q, e] at b3
        cases b3
        rw [hd] at b6
        cases b6
      · rw [q, hTp] at b3
        cases b3
        cases b6
    · obtain ⟨o, es, ep, e, hd, _⟩ := hns
      rw [z, hTp] at e
      cases e
      cases hd
  have e0 : Env0 P w K mg (hidT s₁.heap H) callerA [] s₁ H := ⟨rfl, hM, fun b o e => of_hidT e, Nat.le_of_eq (hidT_size _ _), trivial, fun b hb => absurd (show b ∈ ([] : List Addr) from hb) (by simp), hok, .of_eq hg⟩
  have rm : RmX true false k callerA (0, default) := ⟨⟨hr.dp, hr.un⟩, fun _ => hgd, fun _ => hr.hd, fun z => Bool.noConfusion z⟩
  refine codeAny_mono ((F _ hKb (nsB hns) TB).run callerA [] s₁ H ⟨[.ref a], []⟩ [.ref a] [.ref a] _ _ (0, default) rm (fun z => Bool.noConfusion z) e0 (hbind s₁ (.ref a)) (.cons rfl .nil) (hsp H HT HS)) fun r s' h => ?_
  cases r with
  | error e => exact (show False from h).elim
  | ok fl =>
    cases fl with
    | next => exact False.elim h
    | brk => exact False.elim h
    | cont => exact False.elim h
    | ret u =>
      obtain ⟨v, H', os, bare, un, hok', r', q⟩ := h
      obtain rfl : v = .bl true := q
      obtain rfl : u = Value.bool true := r'
      have key : ∀ b o, b ∉ Ps → s₁.heap.get? b = some o → s'.heap.get? b = some o := fun b o nb e => by
        cases q : H b with
        | none => exact un.keep b o e q (by intro z; exact absurd (show b ∈ ([] : List Addr) from z) (by simp)) (by simp)
        | some u =>
          rcases outset_in q with ⟨m, _⟩ | ⟨_, rfl, _, rfl⟩
          · exact absurd m nb
          · obtain ⟨e2, _⟩ := hok' b _ (un.frzs b _ _ q)
            rw [e] at ha; cases ha
            exact e2
      have grown : ∀ p ∈ cs, ∃ more : Array Value, s'.heap.get? p.2 = some { cls := .none, data := .fields more } := fun p hp => by
        obtain ⟨more, z⟩ := un.tbls p.2 #[] (HT p hp)
        exact ⟨_, hok' p.2 _ z⟩
      refine ⟨rfl, ⟨fun b o e => ?_, fun b o e => ?_⟩, os, bare⟩
      · by_cases hb : b ∈ Ps
        · obtain ⟨p, hp, rfl⟩ := List.mem_map.mp hb
          obtain ⟨more, hm⟩ := grown p hp
          rw [hT p hp] at e
          cases e
          exact .inr (.inl ⟨((C p hp).tab (hT p hp)).isCodeTable, rfl, #[], more, rfl, by rw [Array.empty_append]; exact hm⟩)
        · exact .inl (key b o hb e)
      · by_cases hb : b ∈ Ps
        · obtain ⟨p, hp, rfl⟩ := List.mem_map.mp hb
          exact ⟨_, (grown p hp).choose_spec⟩
        · exact ⟨o, key b o hb e⟩
end Spf
end
set_option maxHeartbeats 4000000
/-! The law holds. -/
namespace Spf
open PySem PySem.Spec PyProof.Rows L2 L2H HotX LamX NdefX
theorem code_at {K : PySem.W.Frag} {x qual : Str} {st : Stmt} {f : Addr} {fd : FuncData} {p : He.Defn} (F : Fun K x qual st f fd) (e : f = He.fAd K p) : fd.code = .ref (He.cT K p).1 := by
  obtain ⟨oc, od, kV, doc, pm, an, cdv, ct, osl, rfl, lk, hcd⟩ := F.ex
  obtain ⟨c, rfl⟩ := He.codeIn_ref hcd
  subst e
  exact congrArg Value.ref (He.codeOf_eq lk rfl).symm
theorem kw_facts {K : PySem.W.Frag} {mg : Str → Option Value} (T : TxtA K mg) : KwFacts T := by
  constructor
  · intro s u v _
    obtain ⟨oc, od, kV, doc, pm, an, cdv, ct, osl, e, lk, hcd⟩ := T.bWish.F.ex
    rw [e]
    exact .of_eq rfl
  · intro s u v _
    obtain ⟨oc, od, kV, doc, pm, an, cdv, ct, osl, e, lk, hcd⟩ := T.bLift.F.ex
    rw [e]
    exact .of_eq rfl
def tl3 (K : PySem.W.Frag) : List (Addr × Str) := [((He.cT K ("Book", some "__setitem__")).2, lamQ "Book.__setitem__" "<lambda>"), ((He.cT K ("_law_behind", none)).2, lamQ "_law_behind" "<lambda>"), ((He.cT K ("_law_nested", none)).2, lamQ "_law_nested" "_law_act")]
def spLaw0 (K : PySem.W.Frag) : Sp := fun vs H Q _ => ∃ (a : Addr) (ns : List Int), vs = [.ref a] ∧ ns.length ≤ 63 ∧ SqL K H a (ns.map V.int) ∧ Tabs (tl3 K) H ∧ ∀ H', Q (.bl true) H'
def tabsOf {K : PySem.W.Frag} {mg : Str → Option Value} {h : Heap} (T : TxtA K mg) (e1 : T.bSet.f = He.fAd K ("Book", some "__setitem__")) (e2 : T.l_behind.f = He.fAd K ("_law_behind", none)) (e3 : T.l_nested.f = He.fAd K ("_law_nested", none)) (c : SaysS hdD hdA hdB hdT h K)
    (base : Heap) (TB : ∀ p ∈ hdT.map (fun p => He.cT K p), TabB base mg p.1 p.2) : TabFacts K mg base T :=
  have ne : ∀ {p q : He.Defn}, (Fb.apart p q).ok K = true → (He.cT K p).2 ≠ (He.cT K q).2 := fun {p q} h z => by
    have h' : ((He.cT K p).2 != (He.cT K q).2) = true := h
    rw [z] at h'
    simp at h'
  { cS := (He.cT K ("Book", some "__setitem__")).1, PS := (He.cT K ("Book", some "__setitem__")).2, cB := (He.cT K ("_law_behind", none)).1, PB := (He.cT K ("_law_behind", none)).2, cN := (He.cT K ("_law_nested", none)).1, PN := (He.cT K ("_law_nested", none)).2,
    codeS := code_at T.bSet.F e1, codeB := code_at T.l_behind.F e2, codeN := code_at T.l_nested.F e3,
    tabS := TB _ (List.mem_map.mpr ⟨("Book", some "__setitem__"), by simp [hdT], rfl⟩), tabB := TB _ (List.mem_map.mpr ⟨("_law_behind", none), by simp [hdT], rfl⟩), tabN := TB _ (List.mem_map.mpr ⟨("_law_nested", none), by simp [hdT], rfl⟩),
    nSB := ne (c.fb_ 31 rfl), nSN := ne (c.fb_ 32 rfl), nBN := ne (c.fb_ 33 rfl) }
theorem law_fn {P : Program} {w : World} {K : PySem.W.Frag} {mg : Str → Option Value} {h : Heap} (T : TxtA K mg) (e1 : T.bSet.f = He.fAd K ("Book", some "__setitem__")) (e2 : T.l_behind.f = He.fAd K ("_law_behind", none)) (e3 : T.l_nested.f = He.fAd K ("_law_nested", none)) (c : SaysS hdD hdA hdB hdT h K)
    (base : Heap) (TB : ∀ p ∈ hdT.map (fun p => He.cT K p), TabB base mg p.1 p.2) : FnX P w K mg base CX0 true false 29 T.law.f T.law.fd pLaw (spLaw0 K) :=
  okLaw T (tabsOf T e1 e2 e3 c base TB) (kw_facts T)
theorem tabs_empty {K : PySem.W.Frag} {H : Hp} (h : ∀ p ∈ hdT.map (fun p => He.cT K p), H p.2 = some (.tbl #[])) : Tabs (tl3 K) H := by
  have one : ∀ (d : He.Defn) (q : Str), d ∈ hdT → TabS H (He.cT K d).2 q := fun d q hd => TabN.to (TabN.nil (nm := fun _ _ => q) (h _ (List.mem_map.mpr ⟨d, hd, rfl⟩)))
  intro p hp
  simp only [tl3, List.mem_cons, List.not_mem_nil, or_false] at hp
  rcases hp with rfl | rfl | rfl
  · exact one _ _ (by simp [hdT])
  · exact one _ _ (by simp [hdT])
  · exact one _ _ (by simp [hdT])
theorem walkS : PySem.W.WalkO qS loose (PySem.W.XL qS []) hkS.says R.toRowW (HandSHeadRun.topDef R.prog 85) [] (fun f vs => PySem.call f vs) := by
  refine Att.attach_callB (l := PySem.Challenge.rw_spreadfalls_k76_whole_trials_in_trials) (n := 63) rfl (by kernel_rfl) fun w s₀ s₁ mg mb fa o pm cd doc a vs ns G Y ho hd hcd hmg hobj hints hlen hbits hg => ?_
  obtain ⟨K, KX, c⟩ := Y
  obtain ⟨T, e1, e2, e3⟩ := txt_of KX G.T.g c
  have hmg' : mg ("law" : Str) = some (.ref fa) := by
    have e : (HandSHeadRun.topDef R.prog 85).name = ("law" : Str) := by kernel_rfl
    rw [← e]
    exact hmg
  have efa : fa = T.law.f := by
    have := hmg'.symm.trans T.law.mg
    cases this
    rfl
  subst efa
  refine law_callG (k := 29) (cs := hdT.map (fun p => He.cT K p)) (x := "_law_script") (fd := T.law.fd) (sp := spLaw0 K) KX G.T.g G.T.b G.T.builtins G.T.nolimit hg (fun p hp => ?_) (fun p hp => ?_) (fun p hp => ?_) G.T.bmain hobj hints (Nat.le_trans hlen (by decide)) ⟨rfl, by decide, by decide⟩ rfl (fun base _ _ TB => law_fn T e1 e2 e3 c base TB) (fun s u => ?_) fun H hH hS => ⟨a, ns, rfl, hlen, hS, tabs_empty hH, fun _ => rfl⟩
  · obtain ⟨d, hd, rfl⟩ := List.mem_map.mp hp
    exact c.empty d hd
  · obtain ⟨d, hd, rfl⟩ := List.mem_map.mp hp
    exact c.out d hd
  · obtain ⟨d, hd, rfl⟩ := List.mem_map.mp hp
    exact PySem.W.codeHd_of_K KX (c.hd d hd)
  · obtain ⟨oc, od, kV, doc, pm, an, cdv, ct, osl, e, lk, hcd⟩ := T.law.F.ex
    rw [e]
    exact .of_eq rfl
end Spf
open PySem PySem.W PySem.Calls PyProof.Rows
theorem PySem.Challenge.cw_spreadfalls_k76_whole_trials_in_trials_holds : PySem.Challenge.rw_spreadfalls_k76_whole_trials_in_trials.Holds := by
  w_on; o_law
  refine HandSHeadRun.head_any (r := OpenLaw.row PySem.Challenge.rw_spreadfalls_k76_whole_trials_in_trials) (q := Spf.qS) (H := Spf.hkS) (ob := Spf.obS) (M := 16000) (loose := Spf.loose) (d := HandSHeadRun.topDef Spf.R.prog 85) (kwd := []) Spf.obS_eq
    (by kernel_rfl) (fun s => by kernel_rfl) Spf.run (by kernel_rfl) (by kernel_rfl) (by kernel_rfl) (by rfl) (by first | assumption | decide +kernel) (by decide +kernel) ⟨rfl, rfl, rfl, rfl, rfl, by decide +kernel⟩ ?hw ?hc
  case hw => w_witness2
  case hc => exact Spf.walkS
