import PyProof.Rows.All
import Wide.All
import OpenK.AllK
import Wide.FinOn
import KE.KStateDown
import Lean
import HandS.Head0
import HandS.Head1
import HandS.Head2
import HandS.HeadNt
import HandS.HeadHook3
import HandS.ExcInit
import HandS.ExcIs
import HandS.ExcField
import HandS.Property
import HandS.ClsMeth
import HandS.GenYield
import HandS.GenList
import HandS.Zip
import HandS.Words
import HandS.Comp
import PyProof.Comp
import PyProof.EqAt
import PyProof.EqKinds
import PyProof.TupleCall
import HandS.ForMost
import HandS.Evl
import HandS.Walk
import HandS.IsInst
import HandS.Star
import HandS.TupAny
import HandS.TupMul
import HandS.Codes
import HandS.Sort
import HandS.SortRule
import HandS.SortInts
import HandS.FStr
import KE.GoesMore
import KE.GoesEnum
import HandS.Text
import KE.KTupSum
import PyProof.WalkInts
import PyProof.TupleOfSeq
import HandS.Wide
import HandS.Flow
import HandS.Style
import HandS.WordsExc
import HandS.TryOnly
import KE.KUnpackStar
import PyProof.RulesMatch
import HandS.Defaults
import HandS.MakeKwOnly
import HandS.RaiseMore
import HandS.OwnEq
import PyProof.ReprRoads
import PyProof.ReprBulk
import PyProof.P3Eq
import KE.KIsAll
import KE.KTryMore
import PyProof.Rows.ReprOcc
import HandS.HeadEnd
import PySem.Challenge.RW_roadbikes_k45_whole_trips_read
set_option Elab.async false
set_option linter.all false
set_option maxRecDepth 100000
-- HD
set_option maxHeartbeats 0
/-! the head: the top's run, its facts read off by a Hook of my own -/
namespace K45
open PySem PySem.W PySem.Calls PyProof.Rows He He5
/-! ### a Hook: any facts of the fragment, any defs -/
abbrev Facts : Type := List (Frag → Bool)
def obsK (fs : Facts) (fn : List DefA) (K : Frag) : He.AlD := ((fs.all fun f => f K) && fn.all fun d => d.ok K, fn.map fun d => fnA K (d.at_ K))
def SaysK (fs : Facts) (fn : List DefA) (K : Frag) : Prop := obsK fs fn K = valA fn
/-- what is looked at: the module's names; the classes' tables; what stands in those of the classes named, its code -/
def codeA (g : Addr → Option Obj) (a : Addr) : List Addr := match g a with
  | some ⟨_, _, .func fd, _⟩ => refV fd.code ++ refV fd.kwdefaults
  | _ => []
def wrapA (g : Addr → Option Obj) (a : Addr) : List Addr := match g a with
  | some ⟨_, _, .func fd, _⟩ => refV fd.code ++ refV fd.kwdefaults
  | some ⟨_, _, .fields vs, _⟩ => vs.toList.flatMap fun v => refV v ++ (refV v).flatMap (codeA g)
  | _ => []
def valsA (g : Addr → Option Obj) (a : Addr) : List Addr := match g a with
  | some ⟨_, _, .dict es _, _⟩ => es.toList.flatMap fun e => refV e.val
  | _ => []
def nameA (ns : List PySem.Str) (g : Addr → Option Obj) (a : Addr) : List Addr := match g a with
  | some ⟨_, _, .func fd, _⟩ => refV fd.code
  | some ⟨_, _, .cls cd, _⟩ => cd.ns :: (match ns.contains cd.name with
    | true => (valsA g cd.ns).flatMap fun b => b :: wrapA g b
    | false => [])
  | _ => []
def asK (ns : List PySem.Str) (g : Addr → Option Obj) : List Addr := mainGlobals :: cStatics :: (valsA g mainGlobals).flatMap fun a => a :: nameA ns g a
def obsKG (n : List PySem.Str) (fs : Facts) (fn : List DefA) (g : Addr → Option Obj) : He.AlD := obsK fs fn (frG g (asK n g))
def hookK (n : List PySem.Str) (fs : Facts) (fn : List DefA) : PySem.W.Hook where
  α := He.AlD
  obs := fun t => obsKG n fs fn t.heap.get?
  val := fun _ => valA fn
  says := fun _ h => ∃ K : Frag, K.In h ∧ SaysK fs fn K
  of := fun _ _ e => ⟨_, frG_in, e⟩
  keeps := fun _ _ _ ⟨K, hK, c⟩ k => ⟨K, Frag.In.keeps hK k, c⟩
theorem obsKG_eq {n : List PySem.Str} {fs : Facts} {fn : List DefA} {g : Addr → Option Obj} {t : Shared} (h : ∀ a, g a = t.heap.get? a) : obsKG n fs fn g = (hookK n fs fn).obs t := by
  obtain rfl : g = t.heap.get? := funext h
  rfl
section
variable {fs : Facts} {fn : List DefA} {K : Frag}
theorem SaysK.fact (c : SaysK fs fn K) (i : Nat) {f : Frag → Bool} (h : fs[i]? = some f) : f K = true :=
  List.all_eq_true.mp (ba (congrArg (fun z : He.AlD => z.1) c)).1 f (List.mem_of_getElem? h)
theorem SaysK.def_ (c : SaysK fs fn K) (i : Nat) {d : DefA} (h : fn[i]? = some d) : ∃ fd, L2.FunD K d.name d.qual d.params d.body d.scope (d.dvs K) (d.kws K) (d.at_ K) fd := by
  have e : (fn.map fun d => fnA K (d.at_ K))[i]? = (fn.map DefA.val)[i]? := congrArg (fun z : He.AlD => z.2[i]?) c
  rw [List.getElem?_map, List.getElem?_map, h] at e
  exact DefA.funD (Option.some.inj e) (List.all_eq_true.mp (ba (congrArg (fun z : He.AlD => z.1) c)).2 d (List.mem_of_getElem? h))
end
/-! ### more facts -/
/-- an own exception class whose __init__ is a def -/
def oexB (K : Frag) (C : Addr) : Bool := match K.lookup C with
  | some ⟨.type c, _, .cls cd, sl⟩ => (match cd.mro, sl.toList with
    | .ref C' :: bm, [_, _, _, _, some (.builtin n), _] => decide (c = "type") && (decide (C' = C) && (decide (n = "ValueError.__new__") && ((!cd.hasDel) && (cd.hasDict && PySem.HandSPX.refsVE bm))))
    | _, _ => false)
  | _ => false
theorem oexB_ok {K : Frag} {C : Addr} (h : oexB K C = true) : ∃ nm q N bs bm sn sub ab col dd k0 k1 k2 k3 k5, K.lookup C = some (excClassObj nm q C N bs bm true sn sub ab col dd k0 k1 k2 k3 k5 "ValueError.__new__") ∧ PySem.HandSPX.refsVE bm = true := by
  unfold oexB at h
  split at h
  · rename_i c dd cd sl lk
    split at h
    · rename_i C' bm k0 k1 k2 k3 n k5 hm hs
      obtain ⟨h1, h⟩ := ba h
      obtain ⟨h2, h⟩ := ba h
      obtain ⟨h3, h⟩ := ba h
      obtain ⟨h4, h⟩ := ba h
      obtain ⟨h5, h6⟩ := ba h
      obtain ⟨nm, bs, mro, ns, qn, hd, sn, sub, ab, col, del⟩ := cd
      obtain rfl := of_decide_eq_true h1
      obtain rfl := of_decide_eq_true h2
      obtain rfl := of_decide_eq_true h3
      have hm : mro = .ref C' :: bm := hm
      subst hm
      have h5 : hd = true := h5
      subst h5
      have h4 : (!del) = true := h4
      have h4 : del = false := by simpa using h4
      subst h4
      have hsl : sl = #[k0, k1, k2, k3, some (.builtin "ValueError.__new__"), k5] := by
        rw [← hs]
      subst hsl
      exact ⟨nm, qn, ns, bs, bm, sn, sub, ab, col, dd, k0, k1, k2, k3, k5, lk, h6⟩
    · cases h
  · cases h
/-- a property's getter -/
def gtO (K : Frag) (C : Addr) (m : PySem.Str) : Addr := wf K C "property" m
def propB (K : Frag) (C : Addr) (m : PySem.Str) : Bool := eqO (findIn K (.ref C) m) (some (some (.ref (ma K C m)))) && (eqO (specialIn K (.ref (ma K C m)) "__get__") (some (some (.builtin "property.__get__"))) &&
  (decide (takesIn K (.ref (ma K C m)) = some true) && (match recIn K (ma K C m) "property" with
    | some (.ref _ :: _) => true
    | _ => false)))
theorem propB_ok {K : Frag} {C : Addr} {m : PySem.Str} (h : propB K C m = true) : L2.PropOf K C m (ma K C m) (gtO K C m) := by
  obtain ⟨h1, h⟩ := ba h
  obtain ⟨h2, h⟩ := ba h
  obtain ⟨h3, h4⟩ := ba h
  refine ⟨eqO_ok h1, eqO_ok h2, of_decide_eq_true h3, ?_⟩
  unfold gtO wf
  split at h4
  · rename_i f r e
    exact ⟨r, by rw [e]⟩
  · cases h4
abbrev trC (K : Frag) : Addr := ga K "Trip"
abbrev btC (K : Frag) : Addr := ga K "BadText"
/-! ### the text -/
def topH (i : Nat) : Stmt := PySem.Challenge.pw_roadbikes_k45_whole_trips_read.main.body.getD i (.Pass ⟨0, 0, 0, 0⟩)
def dG (x : PySem.Str) (i : Nat) : DefA := ⟨fun K => ga K x, x, x, L2.defArgs (topH i), L2.defBody (topH i), L2.defScope (topH i), [], []⟩
def dM (m q : PySem.Str) (j : Nat) (kw : List (PySem.Str × He.Dv)) : DefA := ⟨fun K => ma K (trC K) m, m, q, L2.defArgs (L2.inClass (topH 69) j), L2.defBody (L2.inClass (topH 69) j), L2.defScope (L2.inClass (topH 69) j), [], kw⟩
def dP (m q : PySem.Str) (j : Nat) : DefA := ⟨fun K => gtO K (trC K) m, m, q, L2.defArgs (L2.inClass (topH 69) j), L2.defBody (L2.inClass (topH 69) j), L2.defScope (L2.inClass (topH 69) j), [], []⟩
def dR : DefA := ⟨fun K => wf K (trC K) "classmethod" "read", "read", "Trip.read", L2.defArgs (L2.inClass (topH 69) 2), L2.defBody (L2.inClass (topH 69) 2), L2.defScope (L2.inClass (topH 69) 2), [], []⟩
def dB : DefA := ⟨fun K => ma K (btC K) "__init__", "__init__", "BadText.__init__", L2.defArgs (L2.inClass (topH 24) 0), L2.defBody (L2.inClass (topH 24) 0), L2.defScope (L2.inClass (topH 24) 0), [], []⟩
def fnH0 : List DefA := [dG "is_number" 29,
  dG "are_ticks" 30,
  dG "road_error" 31,
  dG "is_road" 32,
  dG "counts_of" 33,
  dG "are_starts" 35,
  dG "leaves_of" 36,
  dG "stages_of" 37,
  dG "ticks_of" 38,
  dG "finish_of" 39,
  dG "latest_people" 44,
  dG "rule_plan" 45,
  dG "least_finish" 46,
  dG "parse_number" 54,
  dG "parse_numbers" 55,
  dG "parse_ticks" 56,
  dG "parse_bikes" 57,
  dG "parse_starts" 58,
  dG "parse_part" 59,
  dG "parse_trip" 60,
  dG "is_within" 62,
  dG "with_person" 63,
  dG "without_person" 64,
  dG "_law_deck" 72,
  dG "_law_draw" 73]
def fnH1 : List DefA := [dG "_law_road" 74,
  dG "_law_starts" 75,
  dG "_law_ruled" 76,
  dG "_law_finish" 77,
  dG "_law_do" 78,
  dG "_law_right" 79,
  dG "_law_number" 80,
  dG "_law_numbers" 81,
  dG "_law_ticks" 82,
  dG "_law_due" 83,
  dG "_law_text" 84,
  dG "_law_read" 85,
  dG "_law_edits_right" 86,
  dG "law" 87,
  dM "own_key" "Trip.own_key" 6 [],
  dM "accept" "Trip.accept" 7 [],
  dM "__len__" "Trip.__len__" 8 [],
  dM "__eq__" "Trip.__eq__" 9 [],
  dM "__str__" "Trip.__str__" 10 [],
  dM "require_idle" "Trip.require_idle" 11 [],
  dM "state_after" "Trip.state_after" 12 [],
  dM "perform" "Trip.perform" 13 [],
  dM "come" "Trip.come" 14 [],
  dM "leave" "Trip.leave" 15 [],
  dM "undo" "Trip.undo" 18 []]
def fnH2 : List DefA := [dM "state_at" "Trip.state_at" 21 [],
  dM "state" "Trip.state" 22 [("version", .non)],
  dM "edits" "Trip.edits" 25 [],
  dM "__init__" "Trip.__init__" 1 [],
  dP "road" "Trip.road" 3,
  dP "starts" "Trip.starts" 4,
  dP "finish" "Trip.finish" 5,
  dR,
  dB]
def fnH : List DefA := fnH0 ++ (fnH1 ++ (fnH2))
def fsH0 : Facts := [fun K => (Fa.free "len").ok K,
  fun K => (Fa.free "tuple").ok K,
  fun K => (Fa.free "list").ok K,
  fun K => (Fa.free "int").ok K,
  fun K => (Fa.free "bool").ok K,
  fun K => (Fa.free "str").ok K,
  fun K => (Fa.free "isinstance").ok K,
  fun K => (Fa.free "all").ok K,
  fun K => (Fa.free "sum").ok K,
  fun K => (Fa.free "abs").ok K,
  fun K => (Fa.free "max").ok K,
  fun K => (Fa.free "min").ok K,
  fun K => (Fa.free "sorted").ok K,
  fun K => (Fa.free "repr").ok K,
  fun K => (Fa.free "enumerate").ok K,
  fun K => (Fa.free "zip").ok K,
  fun K => (Fa.free "range").ok K,
  fun K => (Fa.free "ValueError").ok K,
  fun K => (Fa.int "MAX_TICKS" 1000).ok K,
  fun K => (Fa.int "MAX_STAGES" 12).ok K,
  fun K => (Fa.int "MAX_BIKES" 12).ok K,
  fun K => (Fa.int "MAX_PEOPLE" 10).ok K,
  fun K => (Fa.int "MAX_START" 1000000).ok K,
  fun K => (Fa.int "MAX_EDITS" 60).ok K,
  fun K => (Fa.int "LONGEST" 8).ok K]
def fsH1 : Facts := [fun K => (Fa.int "MANY_WORDS" 4).ok K,
  fun K => (Fa.str "FIGURES" "0123456789").ok K,
  fun K => (Fa.str "COMMA" ",").ok K,
  fun K => (Fa.str "SLASH" "/").ok K,
  fun K => (Fa.str "MIDDLE" "from").ok K,
  fun K => (Fa.glo "is_number").ok K,
  fun K => (Fa.glo "are_ticks").ok K,
  fun K => (Fa.glo "road_error").ok K,
  fun K => (Fa.glo "is_road").ok K,
  fun K => (Fa.glo "counts_of").ok K,
  fun K => (Fa.glo "are_starts").ok K,
  fun K => (Fa.glo "leaves_of").ok K,
  fun K => (Fa.glo "stages_of").ok K,
  fun K => (Fa.glo "ticks_of").ok K,
  fun K => (Fa.glo "finish_of").ok K,
  fun K => (Fa.glo "latest_people").ok K,
  fun K => (Fa.glo "rule_plan").ok K,
  fun K => (Fa.glo "least_finish").ok K,
  fun K => (Fa.glo "parse_number").ok K,
  fun K => (Fa.glo "parse_numbers").ok K,
  fun K => (Fa.glo "parse_ticks").ok K,
  fun K => (Fa.glo "parse_bikes").ok K,
  fun K => (Fa.glo "parse_starts").ok K,
  fun K => (Fa.glo "parse_part").ok K,
  fun K => (Fa.glo "parse_trip").ok K]
def fsH2 : Facts := [fun K => (Fa.glo "is_within").ok K,
  fun K => (Fa.glo "with_person").ok K,
  fun K => (Fa.glo "without_person").ok K,
  fun K => (Fa.glo "_law_deck").ok K,
  fun K => (Fa.glo "_law_draw").ok K,
  fun K => (Fa.glo "_law_road").ok K,
  fun K => (Fa.glo "_law_starts").ok K,
  fun K => (Fa.glo "_law_ruled").ok K,
  fun K => (Fa.glo "_law_finish").ok K,
  fun K => (Fa.glo "_law_do").ok K,
  fun K => (Fa.glo "_law_right").ok K,
  fun K => (Fa.glo "_law_number").ok K,
  fun K => (Fa.glo "_law_numbers").ok K,
  fun K => (Fa.glo "_law_ticks").ok K,
  fun K => (Fa.glo "_law_due").ok K,
  fun K => (Fa.glo "_law_text").ok K,
  fun K => (Fa.glo "_law_read").ok K,
  fun K => (Fa.glo "_law_edits_right").ok K,
  fun K => (Fa.glo "law").ok K,
  fun K => (Fa.glo "Trip").ok K,
  fun K => (Fa.glo "PromisedTrip").ok K,
  fun K => (Fa.glo "BadText").ok K,
  fun K => (Fa.glo "TripError").ok K,
  fun K => (Fa.glo "BadRoad").ok K,
  fun K => (Fa.glo "BadStarts").ok K]
def fsH3 : Facts := [fun K => (Fa.glo "TooLong").ok K,
  fun K => (Fa.glo "NothingToUndo").ok K,
  fun K => (Fa.cls "Trip").ok K,
  fun K => (Fa.noat "Trip" "states").ok K,
  fun K => (Fa.noat "Trip" "finishes").ok K,
  fun K => (Fa.noat "Trip" "standing").ok K,
  fun K => (Fa.noat "Trip" "watching").ok K,
  fun K => (Fa.meth "Trip" "own_key").ok K,
  fun K => (Fa.meth "Trip" "accept").ok K,
  fun K => (Fa.meth "Trip" "__len__").ok K,
  fun K => (Fa.meth "Trip" "__eq__").ok K,
  fun K => (Fa.meth "Trip" "__str__").ok K,
  fun K => (Fa.meth "Trip" "require_idle").ok K,
  fun K => (Fa.meth "Trip" "state_after").ok K,
  fun K => (Fa.meth "Trip" "perform").ok K,
  fun K => (Fa.meth "Trip" "come").ok K,
  fun K => (Fa.meth "Trip" "leave").ok K,
  fun K => (Fa.meth "Trip" "undo").ok K,
  fun K => (Fa.meth "Trip" "state_at").ok K,
  fun K => (Fa.meth "Trip" "state").ok K,
  fun K => (Fa.meth "Trip" "edits").ok K,
  fun K => (Fa.mkr "Trip").ok K,
  fun K => (Fa.exc "NothingToUndo").ok K,
  fun K => (Fa.exm "NothingToUndo" "NothingToUndo" true).ok K,
  fun K => (Fa.exm "BadText" "TripError" true).ok K]
def fsH4 : Facts := [fun K => eqO (findIn K (.ref (trC K)) "__class__") (some (some (.builtin "object.__class__"))),
  fun K => eqO (specialIn K (.builtin "object.__class__") "__get__") (some (some (.builtin "getset_descriptor.__get__"))),
  fun K => decide (takesIn K (.builtin "object.__class__") = some true),
  fun K => decide (mroIn K (trC K) (.type "object") = some true),
  fun K => decide (kitOne K (.ref (trC K)) (.ref (trC K)) = some true),
  fun K => decide (kitOne K (.ref (trC K)) (.type "list") = some false),
  fun K => decide (kitOne K (.ref (trC K)) (.ref (ga K "PromisedTrip")) = some false),
  fun K => conB K "Trip" "MOST_EDITS" (.int 60),
  fun K => propB K (trC K) "road",
  fun K => propB K (trC K) "starts",
  fun K => propB K (trC K) "finish",
  fun K => readsIn K (trC K) (.type "type"),
  fun K => eqO (specialIn K (.ref (trC K)) "__getattribute__") (some (some (.builtin "type.__getattribute__"))),
  fun K => wrapB K (trC K) "classmethod" "classmethod.__get__" "read",
  fun K => fnIn K (wf K (trC K) "classmethod" "read"),
  fun K => oexB K (btC K),
  fun K => eqO (findIn K (.ref (btC K)) "__setattr__") (some (some (.builtin "object.__setattr__"))),
  fun K => decide (subIn K (.ref (btC K)) (.type "BaseException") = some true),
  fun K => decide (typeIn K (.ref (btC K)) = some (.type "type")),
  fun K => keepIn K (.ref (btC K)),
  fun K => eqO (findIn K (.ref (btC K)) "__init__") (some (some (.ref (ma K (btC K) "__init__")))),
  fun K => decide (typeIn K (.ref (ma K (btC K) "__init__")) = some (.type "function")),
  fun K => eqO (findIn K (.ref (btC K)) "index") (some none),
  fun K => eqO (findIn K (.ref (btC K)) "__getattribute__") (some (some (.builtin "BaseException.__getattribute__"))),
  fun K => eqO (findIn K (.ref (btC K)) "__getattr__") (some none)]
def fsH5 : Facts := [fun K => hasDictIn K (btC K),
  fun K => eqO (findIn K (.ref (btC K)) "__class__") (some (some (.builtin "object.__class__"))),
  fun K => decide (mroIn K (btC K) (.type "object") = some true),
  fun K => decide (kitOne K (.ref (btC K)) (.ref (btC K)) = some true),
  fun K => decide (kitOne K (.ref (btC K)) (.type "ValueError") = some true),
  fun K => decide (kitAny K (.ref (btC K)) [.ref (ga K "BadRoad"), .ref (ga K "BadStarts"), .ref (ga K "TooLong")] = some false)]
def fsH : Facts := fsH0 ++ (fsH1 ++ (fsH2 ++ (fsH3 ++ (fsH4 ++ (fsH5)))))
/-! ### the run -/
abbrev rowH : OpenRow := OpenLaw.row PySem.Challenge.rw_roadbikes_k45_whole_trips_read
abbrev qv : Program := view rowH.prog [87]
def namesH0 : List PySem.Str := ["_wall", "LIMIT", "MAX_TICKS", "MAX_STAGES", "MAX_BIKES", "MAX_PEOPLE", "MAX_START", "MAX_EDITS", "TripError", "TooManyPeople", "LastPerson", "Busy", "TooManyEdits", "NothingToUndo", "TooLong", "BadStarts", "TooLate", "BadRoad", "BadStart", "BadCount"]
def namesH1 : List PySem.Str := ["TooMuch", "TooFew", "BadEnd", "BadText", "NoPerson", "NoStation", "NoVersion", "is_number", "are_ticks", "road_error", "is_road", "counts_of", "are_starts", "leaves_of", "stages_of", "ticks_of", "finish_of", "is_moment", "Promise", "latest_people"]
def namesH2 : List PySem.Str := ["rule_plan", "least_finish", "FIGURES", "LONGEST", "COMMA", "SLASH", "MIDDLE", "MANY_WORDS", "parse_number", "parse_numbers", "parse_ticks", "parse_bikes", "parse_starts", "parse_part", "parse_trip", "is_within", "with_person", "without_person", "require_bikes", "with_number"]
def namesH3 : List PySem.Str := ["with_bikes", "without_bikes", "Trip", "PromisedTrip", "_law_deck", "_law_draw", "_law_road", "_law_starts", "_law_ruled", "_law_finish", "_law_do", "_law_right", "_law_number", "_law_numbers", "_law_ticks", "_law_due", "_law_text", "_law_read", "_law_edits_right"]
def namesH : List PySem.Str := namesH0 ++ (namesH1 ++ (namesH2 ++ (namesH3)))
abbrev hkH : PySem.W.Hook := hookK ["Trip", "BadText"] fsH fnH
def obH (t : PySem.W.SharedT) : He.AlD := obsKG ["Trip", "BadText"] fsH fnH (HandSHeadRun.getT t)
theorem obH_eq (t : PySem.W.SharedT) : obH t = hkH.obs t.abs := obsKG_eq (HandSHeadRun.getT_eq t)
theorem runH (w : World) : HandSHeadRun.RunEq rowH qv hkH obH 8000 namesH w := by
  intro os
  kernel_rfl
end K45
-- G1
set_option maxHeartbeats 2000000
/-! A generator def whose consumer is a comprehension: (a, b, c) is handed out, c is kept in a list at S; C: the comprehension's own dict. -/
namespace K45
namespace Gn
open PySem PySem.Spec PyProof.Rows GenW L2

structure Slept (S C : Addr) (v : Value) (s s' : Shared) : Prop where
  os : s'.os = s.os
  bare : AllBare s'.gens
  keep : ∀ b o, b ≠ S → b ≠ C → s.heap.get? b = some o → s'.heap.get? b = some o
  own : ∀ acc c, s.heap.get? S = some (lstObj acc c) → ∀ t o u0 u1 u2 n, v = .ref t → s.heap.get? t = some o → o.data = .seq #[u0, u1, u2] n → ∃ c', s'.heap.get? S = some (lstObj (acc.push u2) c')
  frm : ∀ o, s.heap.get? C = some o → (∀ v, o.data ≠ .cell v) → ∃ o', s'.heap.get? C = some o' ∧ ∀ v, o'.data ≠ .cell v
/-- the consumer's things: younger than the call, none of the frame's -/
structure Apart (X : Cx) (S C : Addr) : Prop where
  s1 : X.s_0.heap.objs.size ≤ S ∧ S ≠ X.env.locals ∧ ∀ x c, X.env.cells.lookup x = some c → c ≠ S
  c1 : X.s_0.heap.objs.size ≤ C ∧ C ≠ X.env.locals ∧ ∀ x c, X.env.cells.lookup x = some c → c ≠ C
  ne : S ≠ C
def GI (X : Cx) (S C : Addr) (ip : List (Addr × Obj)) (ys : List V) (σ : L2.St) (H : Hp) (s₀ s : Shared) : Prop :=
  ∃ (acc : Array Value) (c : Nat) (oC : Obj), Vals ys acc.toList ∧ s₀.heap.get? S = some (lstObj acc c) ∧ s₀.heap.get? C = some oC ∧ Inv X ((S, lstObj acc c) :: (C, oC) :: ip) σ H s
theorem GI.at {X : Cx} {S C : Addr} {ip : List (Addr × Obj)} {ys : List V} {σ : L2.St} {H : Hp} {s₀ s : Shared} (h : GI X S C ip ys σ H s₀ s) :
    H S = none ∧ H C = none ∧ s.heap.get? S = s₀.heap.get? S ∧ s.heap.get? C = s₀.heap.get? C ∧ ∃ (acc : Array Value) (c : Nat), Vals ys acc.toList ∧ s.heap.get? S = some (lstObj acc c) := by
  obtain ⟨acc, c, oC, r, e1, e2, I⟩ := h
  obtain ⟨h1, h2, _⟩ := I.pin (S, lstObj acc c) (List.mem_append_right _ List.mem_cons_self)
  obtain ⟨k1, k2, _⟩ := I.pin (C, oC) (List.mem_append_right _ (List.mem_cons_of_mem _ List.mem_cons_self))
  exact ⟨h2, k2, h1.trans e1.symm, k1.trans e2.symm, acc, c, r, h1⟩
theorem GI.woken {X : Cx} {S C : Addr} {ip : List (Addr × Obj)} {ys : List V} {t : Addr} {x0 x1 x2 : V} {σ : L2.St} {H : Hp} {s₀ s s' : Shared} (hpn : ∀ p ∈ X.pn, p.1 ≠ S ∧ p.1 ≠ C) (hip : ∀ p ∈ ip, p.1 ≠ S ∧ p.1 ≠ C) (hA : Apart X S C)
    (h : GI X S C ip ys σ H s₀ s) (ht : H t = some (.tup [x0, x1, x2])) (z : Slept S C (.ref t) s s') : GI X S C ip (ys ++ [x2]) σ H s' s' := by
  obtain ⟨acc, c, oC, r, e1, e2, I⟩ := h
  obtain ⟨eS, hS0, hSL, hSf, _⟩ := I.pin (S, lstObj acc c) (List.mem_append_right _ List.mem_cons_self)
  obtain ⟨eC, hC0, hCL, hCf, hCd⟩ := I.pin (C, oC) (List.mem_append_right _ (List.mem_cons_of_mem _ List.mem_cons_self))
  have I0 : Inv X ip σ H s := I.pins_of fun p hp => I.pin p (List.mem_append_right _ (List.mem_cons_of_mem _ (List.mem_cons_of_mem _ hp)))
  have ntS : ∀ b u, H b = some u → b ≠ S := fun b u q hb => by rw [hb, hS0] at q; cases q
  have ntC : ∀ b u, H b = some u → b ≠ C := fun b u q hb => by rw [hb, hC0] at q; cases q
  obtain ⟨_, its, rv, o, ho, hoc, n, hod⟩ := I.hok t _ ht
  obtain ⟨z1, z2, z3, z4, z5⟩ := z
  have rl := rv.length
  match its, rl, rv with
  | [u0, u1, u2], _, rv =>
    have r2 : RelV x2 u2 := by
      cases rv with
      | cons _ rv => cases rv with
        | cons _ rv => cases rv with
          | cons a _ => exact a
    obtain ⟨c', eS'⟩ := z4 acc c eS t o u0 u1 u2 n rfl ho hod
    obtain ⟨oC', eC', hCd'⟩ := z5 oC eC hCd
    obtain ⟨hh, g, d, tk, os⟩ := s'
    have hos : os = s.os := z1
    subst hos
    have nc : ∀ b, b ∉ [S, C] → b ≠ S ∧ b ≠ C := fun b hb => ⟨fun e => hb (by simp [e]), fun e => hb (by simp [e])⟩
    have J : Inv X ip σ H { s with heap := hh, gens := g, drawn := d, toks := tk } := by
      refine I0.step (g' := g) (t' := tk) (d' := d) (ch := [S, C]) (fun b hb => ?_)
        (fun b ob _ _ hc q _ => z3 b ob (nc b hc).1 (nc b hc).2 q) (fun b ob _ _ hc q _ => ⟨ob.slots, z3 b ob (nc b hc).1 (nc b hc).2 q⟩) (fun _ _ _ _ n => n) (fun b ob hc q => ⟨ob, z3 b ob (nc b hc).1 (nc b hc).2 q⟩)
        (fun _ _ q => q) (fun _ _ _ q => q) (fun b ps q => ⟨#[], by rw [q]; simp⟩) (fun m hm => ?_) (fun b u q => ?_) z2
      · have e : b = S ∨ b = C := by simpa using hb
        rcases e with e | e
        · rw [e]; exact ⟨.inr hA.s1.1, hA.s1.2.1, hA.s1.2.2, fun p hp => (List.mem_append.mp hp).elim (fun hp => (hpn p hp).1) fun hp => (hip p hp).1⟩
        · rw [e]; exact ⟨.inr hA.c1.1, hA.c1.2.1, hA.c1.2.2, fun p hp => (List.mem_append.mp hp).elim (fun hp => (hpn p hp).2) fun hp => (hip p hp).2⟩
      · obtain ⟨ob, es, ep, ho, r⟩ := hm
        exact ⟨ob, es, ep, z3 _ ob (Ne.symm hSL) (Ne.symm hCL) ho, r⟩
      · refine (I0.hok b u q).stay (fun c v hc y => z3 c v ?_ ?_ y) (fun _ y => y) fun _ _ y => y
        · rcases hc with y | y
          · rw [y]; exact ntS b u q
          · exact ntS c _ y
        · rcases hc with y | y
          · rw [y]; exact ntC b u q
          · exact ntC c _ y
    refine ⟨acc.push u2, c', oC', ?_, eS', eC', J.pins_of fun p hp => ?_⟩
    · rw [Array.toList_push]
      exact r.append (.cons r2 .nil)
    · rcases List.mem_cons.mp hp with hp | hp
      · rw [hp]; exact ⟨eS', hS0, hSL, hSf, fun v q => by cases q⟩
      · rcases List.mem_cons.mp hp with hp | hp
        · rw [hp]; exact ⟨eC', hC0, hCL, hCf, hCd'⟩
        · exact J.pin p (List.mem_append_right _ hp)

/-! ### the protocol -/
def GY (X : Cx) (S C : Addr) : Protocol := fun n s₀ v s kap =>
  ∃ ys t x0 x1 x2 ip σ H, n + 1 + ys.length = sizeLine ∧ v = .ref t ∧ H t = some (.tup [x0, x1, x2]) ∧ GI X S C ip ys σ H s₀ s ∧ ∀ s', Slept S C v s s' → kap (.send .none) s'
def GR (X : Cx) (S C : Addr) (Q : List V → VK) : GenEnd := fun n s₀ r s => match r with
  | .ok (.ret u) => ∃ ys v ip σ H, n + ys.length = sizeLine ∧ GI X S C ip ys σ H s₀ s ∧ RelV v u ∧ Q ys v H
  | _ => False
structure GEnds where
  nx : List V → L2.St → Hp → Prop
  rt : List V → VK
  bk : List V → L2.St → Hp → Prop := fun _ _ _ => False
  ct : List V → L2.St → Hp → Prop := fun _ _ _ => False
abbrev TGn := GEnds → List V → L2.St → Hp → Prop
def GEnds.at (D : GEnds) (ys : List V) : Ends := { nx := D.nx ys, rt := D.rt ys, bk := D.bk ys, ct := D.ct ys }
def GSP (X : Cx) (S C : Addr) (ip : List (Addr × Obj)) (D : GEnds) (ys : List V) (f : Flow) (s₀ s : Shared) : Prop :=
  match f with
  | .next => ∃ σ H, GI X S C ip ys σ H s₀ s ∧ D.nx ys σ H
  | .brk => ∃ σ H, GI X S C ip ys σ H s₀ s ∧ D.bk ys σ H
  | .cont => ∃ σ H, GI X S C ip ys σ H s₀ s ∧ D.ct ys σ H
  | .ret u => ∃ v σ H, GI X S C ip ys σ H s₀ s ∧ RelV v u ∧ D.rt ys v H
structure GC (X : Cx) (S C : Addr) (ip : List (Addr × Obj)) (A : Around) (c : Code) (fs : List Frame) (gd : Bool → Bool) : Prop where
  pn : ∀ p ∈ X.pn, p.1 ≠ S ∧ p.1 ≠ C
  ip : ∀ p ∈ ip, p.1 ≠ S ∧ p.1 ≠ C
  apart : Apart X S C
  over : A.over c fs = X.A
  split : splitAtGen fs = none
  guard : fs.any Frame.guarded = false
  gd : gd false = false
def GK (X : Cx) (S C : Addr) (ip : List (Addr × Obj)) (A : Around) (R : GenEnd) (c : Code) (fs : List Frame) (K : Flow → Sem PySem.Fin) (D : GEnds) : Prop :=
  ∀ (n : Nat) (ys : List V) (s₀ s : Shared) (f : Flow), n + ys.length = sizeLine → GSP X S C ip D ys f s₀ s → Seg (model X.prog X.w) A R (GY X S C) n s₀ c (K f) fs s
abbrev Nox (X : Cx) : Prop := ∀ e s, ¬ X.xe e s
structure GS (X : Cx) (st : Stmt) (t : TGn) : Prop where
  run : ∀ (A : Around) (S C : Addr) (ip : List (Addr × Obj)) (R : GenEnd) (n : Nat) (ys : List V) (s₀ : Shared) (c : Code) (fs : List Frame) (K : Flow → Sem PySem.Fin) (J : Value → Sem PySem.Fin) (gd : Bool → Bool) (lv : List Value → List Value) (s : Shared) (σ : L2.St) (H : Hp) (D : GEnds),
    GC X S C ip A c fs gd → n + ys.length = sizeLine → GK X S C ip A R c fs K D → GI X S C ip ys σ H s₀ s → t D ys σ H →
    Seg (model X.prog X.w) A R (GY X S C) n s₀ c ((exec st X.env).wrap K J gd lv) fs s
structure GSs (X : Cx) (st : List Stmt) (t : TGn) : Prop where
  run : ∀ (A : Around) (S C : Addr) (ip : List (Addr × Obj)) (R : GenEnd) (n : Nat) (ys : List V) (s₀ : Shared) (c : Code) (fs : List Frame) (K : Flow → Sem PySem.Fin) (J : Value → Sem PySem.Fin) (gd : Bool → Bool) (lv : List Value → List Value) (s : Shared) (σ : L2.St) (H : Hp) (D : GEnds),
    GC X S C ip A c fs gd → n + ys.length = sizeLine → GK X S C ip A R c fs K D → GI X S C ip ys σ H s₀ s → t D ys σ H →
    Seg (model X.prog X.w) A R (GY X S C) n s₀ c ((execs st X.env).wrap K J gd lv) fs s
section
variable {X : Cx} {st : Stmt} {rest : List Stmt}
def tPlain (t : TS) : TGn := fun D ys σ H => t (D.at ys) σ H
theorem sp_gsp {S C : Addr} {acc : Array Value} {c : Nat} {oC : Obj} {ip : List (Addr × Obj)} {s₀ s : Shared} {D : GEnds} {ys : List V} {f : Flow} (r : Vals ys acc.toList) (e1 : s₀.heap.get? S = some (lstObj acc c)) (e2 : s₀.heap.get? C = some oC)
    (h : SP X ((S, lstObj acc c) :: (C, oC) :: ip) (D.at ys) f s) : GSP X S C ip D ys f s₀ s := by
  cases f with
  | next => obtain ⟨σ, H, I, q⟩ := h; exact ⟨σ, H, ⟨acc, c, oC, r, e1, e2, I⟩, q⟩
  | brk => obtain ⟨σ, H, I, q⟩ := h; exact ⟨σ, H, ⟨acc, c, oC, r, e1, e2, I⟩, q⟩
  | cont => obtain ⟨σ, H, I, q⟩ := h; exact ⟨σ, H, ⟨acc, c, oC, r, e1, e2, I⟩, q⟩
  | ret u => obtain ⟨v, σ, H, I, r1, q⟩ := h; exact ⟨v, σ, H, ⟨acc, c, oC, r, e1, e2, I⟩, r1, q⟩
theorem gs_ps {t : TS} (nx : Nox X) (h : PS X st t) : GS X st (tPlain t) := by
  refine ⟨fun A S C ip R n ys s₀ c fs K J gd lv s σ H D g hn k hI ht => ?_⟩
  obtain ⟨acc, cc, oC, r, e1, e2, I⟩ := hI
  refine seg_wrap ?_
  rw [g.over]
  exact wpAny_mono (h.run _ s σ H (D.at ys) I ht) (fun f s' hs => k n ys s₀ s' f hn (sp_gsp r e1 e2 hs)) fun x s' hx => absurd hx (nx x s')
def tG0 : TGn := fun D ys σ H => D.nx ys σ H
theorem gss_nil : GSs X [] tG0 := by
  refine ⟨fun A S C ip R n ys s₀ c fs K J gd lv s σ H D g hn k hI ht => ?_⟩
  exact seg_execs_nil (k n ys s₀ s .next hn ⟨σ, H, hI, ht⟩)
def tGThen (t u : TGn) : TGn := fun D ys σ H => t { D with nx := fun ys' σ' H' => u D ys' σ' H' } ys σ H
theorem gss_cons {t u : TGn} (a : GS X st t) (b : GSs X rest u) : GSs X (st :: rest) (tGThen t u) := by
  refine ⟨fun A S C ip R n ys s₀ c fs K J gd lv s σ H D g hn k hI ht => ?_⟩
  refine seg_execs_cons ?_
  refine a.run A S C ip R n ys s₀ c fs _ J gd lv s σ H { D with nx := fun ys' σ' H' => u D ys' σ' H' } g hn (fun n' ys' s₀' s' f hn' hs => ?_) hI ht
  cases f with
  | next =>
    obtain ⟨σ', H', I', q⟩ := hs
    exact b.run A S C ip R n' ys' s₀' c fs K J gd lv s' σ' H' D g hn' k I' q
  | brk => exact k n' ys' s₀' s' .brk hn' hs
  | cont => exact k n' ys' s₀' s' .cont hn' hs
  | ret u => exact k n' ys' s₀' s' (.ret u) hn' hs
/-! ### yield -/
def tGYield (te : TE) : TGn := fun D ys σ H => ys.length < sizeLine ∧ te σ H fun x H1 => ∃ t x0 x1 x2, x = .ref t ∧ H1 t = some (.tup [x0, x1, x2]) ∧ D.nx (ys ++ [x2]) σ H1
theorem gs_yield {e : Expr} {yp pos : Pos} {te : TE} (nx : Nox X) (he : PE X e te) (hco : X.env.scope.isCoroutine = false := by rfl) (hi : interactive X.env = false := by rfl) : GS X (.Expr (.Yield (some e) yp) pos) (tGYield te) := by
  refine ⟨fun A S C ip R n ys s₀ c fs K J gd lv s σ H D g hn k hI ht => ?_⟩
  obtain ⟨hlt, ht⟩ := ht
  obtain ⟨n, rfl⟩ : ∃ m, n = m + 1 := ⟨n - 1, by omega⟩
  obtain ⟨acc, cc, oC, r, e1, e2, I⟩ := hI
  refine seg_Expr_Yield g.split g.gd g.guard ?_ hco hi
  rw [g.over]
  refine wpAny_mono (he.run _ s σ H _ I ht) (fun v s' hv => ?_) fun x s' hx => absurd hx (nx x s')
  obtain ⟨x, H1, I1, rv, t, x0, x1, x2, ex, et, q⟩ := hv
  subst ex
  obtain rfl : v = Value.ref t := rv
  have G1 : GI X S C ip ys σ H1 s₀ s' := ⟨acc, cc, oC, r, e1, e2, I1⟩
  intro kap hk
  refine ⟨ys, t, x0, x1, x2, ip, σ, H1, hn, rfl, et, G1, fun s'' z => hk .none s'' ?_⟩
  refine k n (ys ++ [x2]) s'' s'' .next ?_ ⟨σ, H1, G1.woken g.pn g.ip g.apart et z, q⟩
  rw [List.length_append, List.length_singleton]; omega
/-! ### for -/
theorem gc_loop {S C : Addr} {ip ip' : List (Addr × Obj)} {A : Around} {c c' : Code} {fs : List Frame} {gd : Bool → Bool} {k : Result → Sem PySem.Fin} {l kp : List Value} {p : Pos} (g : GC X S C ip A c fs gd) (hw : c'.weight = 0) (hu : c'.cUnits = 0) (hip : ∀ p ∈ ip', p.1 ≠ S ∧ p.1 ≠ C) :
    GC X S C ip' A c' (.ret k none (gd false) l c p kp :: fs) id where
  pn := g.pn
  ip := hip
  apart := g.apart
  over := (over_loop hw hu).trans g.over
  split := by
    show (splitAtGen fs).map _ = none
    rw [g.split]; rfl
  guard := by
    show (gd false || fs.any Frame.guarded) = false
    rw [g.gd, g.guard]; rfl
  gd := rfl
def tGFor (wi : TI) (g : TG) (tb : TGn) : TGn := fun D ys σ H => wi σ H fun J H2 => ∃ W : Nat → Nat → List V → L2.St → Hp → Prop, (∃ m, W 0 m ys σ H2) ∧ ∀ i m ys σ H, W i m ys σ H →
  (J.stop i H ∧ D.nx ys σ H) ∨ (J.go i H ∧ ∃ N : List V → L2.St → Hp → Prop, (∀ ys' σ' H', N ys' σ' H' → ∃ m', m' < m ∧ W (i + 1) m' ys' σ' H') ∧ ∀ x H', J.yld i H x H' → g x σ H' fun σ2 H2 => tb { D with nx := N, ct := N, bk := D.nx } ys σ2 H2)
theorem gs_for {tg iter : Expr} {body : List Stmt} {wi : TI} {g : TG} {tb : TGn} {pos : Pos} (nx : Nox X) (hc : X.calm = true) (hi : PI X tg iter wi) (hg : PG X tg g) (hb : GSs X body tb)
    (hs : ∀ x, foldedSetIterable iter X.env x = pure x := by intro _; rfl) : GS X (.For tg iter body [] pos) (tGFor wi g tb) := by
  refine ⟨fun A S C ip R n ys s₀ c fs K J gd lv s σ H D gc hn k hI ht => ?_⟩
  obtain ⟨acc, cc, oC, r, e1, e2, I⟩ := hI
  rw [exec_For]
  refine seg_bind_wrap (wpAny_standAt ?_)
  refine seg_bind_wrap ?_
  rw [gc.over]
  refine wpAny_mono (hi.run _ s σ H _ I ht) (fun v s1 h1 => ?_) fun x s' hx => absurd hx (nx x s')
  refine seg_bind_wrap (wpAny_of_eq (hs v) ?_)
  refine seg_bind_wrap (wpAny_standAt ?_)
  refine seg_bind_wrap (wpAny_holding ?_)
  rw [gc.over]
  refine wpAny_mono h1 (fun itv s2 h2 => ?_) fun x s' hx => absurd hx (nx x s')
  obtain ⟨it, fp, tn, J2, H2, e, I2, T, st2, f2, W, ⟨m0, w0⟩, turn⟩ := h2
  subst e
  refine seg_call fun p => ?_
  have hfS : ∀ b ∈ fp, b ≠ S ∧ b ≠ C := fun b hb =>
    let q := (f2 b hb).2.2.2.2.2
    ⟨fun z => q (S, lstObj acc cc) (List.mem_append_right _ List.mem_cons_self) z.symm, fun z => q (C, oC) (List.mem_append_right _ (List.mem_cons_of_mem _ List.mem_cons_self)) z.symm⟩
  have gl : ∀ (kk : Result → Sem PySem.Fin) (ip' : List (Addr × Obj)), (∀ p ∈ ip', p.1 ≠ S ∧ p.1 ≠ C) → GC X S C ip' A (.forLoop tg (.ref it) body [] X.env) (.ret kk none (gd false) (lv []) c p [] :: fs) id := fun kk ip' hip => gc_loop gc rfl rfl hip
  have nfp : ∀ b ∈ fp, b ≠ X.env.locals ∧ b ∉ X.fs ∧ (b ∈ X.ex ∨ X.s_0.heap.objs.size ≤ b) ∧ (∀ x c, X.env.cells.lookup x = some c → c ≠ b) ∧ (∀ p ∈ X.pn ++ ip, p.1 ≠ b) := fun b hb =>
    let q := (f2 b hb).2
    ⟨q.1, q.2.1, q.2.2.1, q.2.2.2.1, fun p hp => q.2.2.2.2 p ((List.mem_append.mp hp).elim (fun z => List.mem_append_left _ z) fun z => List.mem_append_right _ (List.mem_cons_of_mem _ (List.mem_cons_of_mem _ z)))⟩
  have fpOf : ∀ {H' : Hp} (acc' : Array Value) (c' : Nat) (oC' : Obj), (∀ b ∈ fp, H' b = none) → ∀ b ∈ fp, FpOk X ((S, lstObj acc' c') :: (C, oC') :: ip) H' b := fun {H'} acc' c' oC' hn b hb => by
    obtain ⟨q1, q2, q3, q4, q5⟩ := nfp b hb
    obtain ⟨b1, b2⟩ := hfS b hb
    refine ⟨hn b hb, q1, q2, q3, q4, fun p hp => ?_⟩
    rcases List.mem_append.mp hp with hp | hp
    · exact q5 p (List.mem_append_left _ hp)
    · rcases List.mem_cons.mp hp with hp | hp
      · rw [hp]; exact Ne.symm b1
      · rcases List.mem_cons.mp hp with hp | hp
        · rw [hp]; exact Ne.symm b2
        · exact q5 p (List.mem_append_right _ hp)
  have loop : ∀ (m i n : Nat) (ys : List V) (s₀ s : Shared) (σ : L2.St) (H : Hp), n + ys.length = sizeLine → W i m ys σ H → GI X S C ip ys σ H s₀ s → tn i s.heap → (∀ b ∈ fp, H b = none) →
      Seg (model X.prog X.w) A R (GY X S C) n s₀ (.forLoop tg (.ref it) body [] X.env) ((model X.prog X.w).den (.forLoop tg (.ref it) body [] X.env))
        (.ret (fun r => ((match r with | .ok f => (.pure f : Sem Flow) | .error e => .raise e).onRaise (cameBack X.env)).wrap K J gd lv) none (gd false) (lv []) c p [] :: fs) s := by
    intro m
    induction m using Nat.strongRecOn with
    | ind m ih =>
      intro i n ys s₀ s σ H hn w hI st fr
      have ov := (gl (fun r => ((match r with | .ok f => (.pure f : Sem Flow) | .error e => .raise e).onRaise (cameBack X.env)).wrap K J gd lv) ip gc.ip).over
      obtain ⟨acc, cc, oC, r, e1, e2, I⟩ := hI
      show Seg _ A R _ n s₀ _ ((forTurn tg (.ref it) body [] X.env).onRaise (fun x => do noteFrame x X.env; theTreesLotGoes x)) _ s
      rw [Sem.onRaise_eq_wrap]
      unfold forTurn
      refine seg_bind_wrap (wpAny_standAt ?_)
      refine seg_bind_wrap ?_
      rw [ov]
      rcases turn i m ys σ H w with ⟨stop, qn⟩ | ⟨go, N, hN, step⟩
      · refine wpAny_onRaise (wpAny_mono (T.done X rfl rfl rfl hc i _ s σ H (fun _ _ => False) I (fpOf acc cc oC fr) st stop) (fun r4 s4 ⟨hr, I4⟩ => ?_) fun _ _ z => z.elim)
        subst hr
        refine seg_again (c' := .block [] X.env) rfl ?_
        exact seg_leaf (.ok .next) (k n ys s₀ s4 .next hn ⟨σ, H, ⟨acc, cc, oC, r, e1, e2, I4⟩, qn⟩)
      · refine wpAny_onRaise (wpAny_mono (T.item X rfl rfl rfl hc i _ s σ H (fun _ _ => False) I (fpOf acc cc oC fr) st go) (fun r4 s4 ⟨u, hr, h4⟩ => ?_) fun _ _ z => z.elim)
        subst hr
        refine seg_bind_wrap ?_
        rw [ov]
        refine wpAny_mono h4 (fun _ s5 ⟨x, H5, I5, r5, y5, st5, fr5⟩ => ?_) fun _ _ z => z.elim
        have fo5 := fpOf acc cc oC fr5
        have I5' : Inv X ((S, lstObj acc cc) :: (C, oC) :: (ip ++ pinsAt fp s5.heap)) σ H5 s5 := I5.pinned fo5 (T.obj _ _ st5)
        refine seg_bind_wrap ?_
        rw [ov]
        refine wpAny_mono (hg.run _ s5 σ H5 x u _ I5' r5 (step x H5 y5)) (fun _ s6 ⟨σ6, H6, I6, q6⟩ => ?_) fun x s' hx => absurd hx (nx x s')
        have hip' : ∀ p ∈ ip ++ pinsAt fp s5.heap, p.1 ≠ S ∧ p.1 ≠ C := fun q hq => by
          rcases List.mem_append.mp hq with hq | hq
          · exact gc.ip q hq
          · refine hfS q.1 ?_
            exact (of_pinsAt hq).1
        rw [Sem.bind_eq_wrap', Sem.wrap_wrap]
        refine hb.run A S C (ip ++ pinsAt fp s5.heap) R n ys s₀ _ _ _ _ id id s6 σ6 H6 { D with nx := N, ct := N, bk := D.nx } (gl _ _ hip') hn (fun n' ys' s₀' s7 f hn' q7 => ?_) ⟨acc, cc, oC, r, e1, e2, I6⟩ q6
        have back : ∀ {σ7 : L2.St} {H7 : Hp}, GI X S C (ip ++ pinsAt fp s5.heap) ys' σ7 H7 s₀' s7 → GI X S C ip ys' σ7 H7 s₀' s7 ∧ tn (i + 1) s7.heap ∧ ∀ b ∈ fp, H7 b = none := fun {σ7 H7} h7 => by
          obtain ⟨acc', cc', oC', r', k1, k2, I7⟩ := h7
          have I7' : Inv X (((S, lstObj acc' cc') :: (C, oC') :: ip) ++ pinsAt fp s5.heap) σ7 H7 s7 := I7
          refine ⟨⟨acc', cc', oC', r', k1, k2, I7'.unpinned⟩, T.keep _ _ _ st5 fun b hb o e => (I7'.pin (b, o) (List.mem_append_right _ (List.mem_append_right _ (mem_pinsAt hb e)))).1, fun b hb => ?_⟩
          obtain ⟨o, e, d⟩ := T.obj _ _ st5 b hb
          exact (I7'.pin (b, o) (List.mem_append_right _ (List.mem_append_right _ (mem_pinsAt hb e)))).2.1
        have again : ∀ {σ7 : L2.St} {H7 : Hp}, GI X S C (ip ++ pinsAt fp s5.heap) ys' σ7 H7 s₀' s7 → N ys' σ7 H7 → Seg (model X.prog X.w) A R (GY X S C) n' s₀' (.forLoop tg (.ref it) body [] X.env) (.pure (.again (.forLoop tg (.ref it) body [] X.env)))
            (.ret (fun r => ((match r with | .ok f => (.pure f : Sem Flow) | .error e => .raise e).onRaise (cameBack X.env)).wrap K J gd lv) none (gd false) (lv []) c p [] :: fs) s7 := fun {σ7 H7} h7 n7 => by
          obtain ⟨G7, st7, fr7⟩ := back h7
          obtain ⟨m', hm, w7⟩ := hN ys' σ7 H7 n7
          exact seg_again rfl (ih m' hm (i + 1) n' ys' s₀' s7 σ7 H7 hn' w7 G7 st7 fr7)
        cases f with
        | next => obtain ⟨σ7, H7, I7, n7⟩ := q7; exact again I7 n7
        | cont => obtain ⟨σ7, H7, I7, n7⟩ := q7; exact again I7 n7
        | brk =>
          obtain ⟨σ7, H7, I7, q7⟩ := q7
          exact seg_leaf (.ok .next) (k n' ys' s₀' s7 .next hn' ⟨σ7, H7, (back I7).1, q7⟩)
        | ret v =>
          obtain ⟨x7, σ7, H7, I7, r7, q7⟩ := q7
          exact seg_leaf (.ok (.ret v)) (k n' ys' s₀' s7 (.ret v) hn' ⟨x7, σ7, H7, (back I7).1, r7, q7⟩)
  exact loop m0 0 n ys s₀ s2 σ H2 hn w0 ⟨acc, cc, oC, r, e1, e2, I2⟩ st2 fun b hb => (f2 b hb).1
end
end Gn
end K45
-- G2
set_option maxHeartbeats 2000000
/-! a generator def's promise by its body -/
namespace K45
namespace Gn
open PySem PySem.Spec PyProof.Rows GenW L2

def gX (P : Program) (w : World) (K : PySem.W.Frag) (mg : Str → Option Value) (base : Heap) (N : List Str) (qual : Str) (scope : Scope) (f : Addr) (cd : Value) (A : Around) (outer : List Env) (s : Shared) (H : Hp) (pn : List (Addr × Obj)) : Cx :=
  { (cxOf CX0 P w K mg base N qual scope f cd A outer s H E0).nox with pn := pn }
theorem Inv.ours {P : Program} {w : World} {K : PySem.W.Frag} {mg : Str → Option Value} {base : Heap} {N : List Str} {qual : Str} {scope : Scope} {f : Addr} {cd : Value} {A : Around} {outer : List Env} {s s1 : Shared} {H H' : Hp} {E : XK} {pn : List (Addr × Obj)} {σ : L2.St}
    (I : Inv (gcxOf P w K mg base N qual scope f cd A outer s H E []) [] σ H' s1) (h : ∀ p ∈ pn, s1.heap.get? p.1 = some p.2 ∧ H' p.1 = none ∧ p.1 ≠ (envOfC qual scope s.heap.objs.size f cd).locals ∧ p.1 ∉ frs outer ∧ ∀ v, p.2.data ≠ .cell v) :
    Inv (gX P w K mg base N qual scope f cd A outer s H pn) [] σ H' s1 :=
  ⟨⟨I.ok.mod, I.ok.kind, I.ok.glob, I.ok.blt, I.ok.above, I.ok.inj, I.ok.has, I.ok.cab, I.ok.hd, I.ok.frames, I.ok.stk, I.ok.exf, I.ok.bs, I.ok.bsz, I.ok.noex, I.ok.exfs, I.ok.funs, I.ok.frf⟩, I.os, I.bare, I.base, I.loc, I.cell, I.free, I.freeC, fun p hp => h p ((List.mem_append.mp hp).elim id fun z => by simp at z), I.hok, I.len⟩

abbrev SpG := List V → Hp → (List V → Hp → Prop) → Prop
def REnd (P : Program) (w : World) (outer : List Env) (H : Hp) (s : Shared) (S C : Addr) (Q : List V → Hp → Prop) : GenEnd := fun n s₀ r s1 =>
  ((r = .ok (.ret .none) ∨ r = .ok .next) ∧ ∃ H' ys acc c, s1.os = s.os ∧ AllBare s1.gens ∧ Un (frs outer) [] H H' s.heap s1.heap ∧ HOk P w H' s1.heap ∧ H' S = none ∧ H' C = none ∧ s1.heap.get? S = some (lstObj acc c) ∧ Vals ys acc.toList ∧ ys.length ≤ sizeLine ∧ s1.heap.get? C = s₀.heap.get? C ∧ Q ys H') ∨ ∃ e, r = .error e ∧ False
def YItem (s : Shared) (S C a : Addr) (g : Nat) : Protocol := fun n s₀ v s1 kap =>
  s1.os = s.os ∧ AllBare s1.gens ∧ s1.heap.NoLimit ∧ s1.heap.IsGen a g ∧ s1.heap.get? S = s₀.heap.get? S ∧ s1.heap.get? C = s₀.heap.get? C ∧ (∃ (acc : Array Value) (c : Nat), s1.heap.get? S = some (lstObj acc c) ∧ n + 1 + acc.size = sizeLine) ∧
    (∃ t u0 u1 u2, v = .ref t ∧ s1.heap.IsTuple t #[u0, u1, u2]) ∧ ∀ s', Slept S C v s1 s' → kap (.send .none) s'
def GMade (P : Program) (w : World) (k : Nat) (outer : List Env) (H : Hp) (s : Shared) (Q : List V → Hp → Prop) (u : Value) (s' : Shared) : Prop :=
  ∃ (a : Addr) (g : Nat) (c : Code), u = .ref a ∧ s.heap.objs.size ≤ a ∧ a < s'.heap.objs.size ∧ s'.heap.IsGen a g ∧ s'.gens[g]? = some (.fresh c) ∧ s'.os = s.os ∧ AllBare s'.gens ∧ s'.heap.NoLimit ∧ (∀ b o, s.heap.get? b = some o → s'.heap.get? b = some o) ∧
    ∀ (A : Around) (S C : Addr) (s2 : Shared), Room k A → A.frames = some outer → s'.heap.objs.size ≤ S → s'.heap.objs.size ≤ C → S ≠ C → (∀ b o, s'.heap.get? b = some o → s2.heap.get? b = some o) → (∃ c, s2.heap.get? S = some (lstObj #[] c)) →
      (∃ oC, s2.heap.get? C = some oC ∧ ∀ v, oC.data ≠ .cell v) → s2.os = s.os → AllBare s2.gens →
      Seg (model P w) A (REnd P w outer H s S C Q) (YItem s S C a g) sizeLine s2 c ((model P w).den c) [] s2
structure GFn (P : Program) (w : World) (K : PySem.W.Frag) (mg : Str → Option Value) (base : Heap) (k : Nat) (f : Addr) (fd : FuncData) (ps : List Str) (sp : SpG) : Prop where
  len : ∀ vs H Q, sp vs H Q → vs.length = ps.length
  run : ∀ (A : Around) (outer : List Env) (s : Shared) (H : Hp) (args : Args) (us : List Value) (vs : List V) (Q : List V → Hp → Prop), Room k A → Env0 P w K mg base A outer s H → BindsTo s fd args (ps.zip us) → Vals vs us → sp vs H Q →
    codeAny (model P w) A (.call (.ref f) args) (fun r s' => match r with | .ok (.ret u) => GMade P w k outer H s Q u s' | _ => False) s
theorem gfn_of {P : Program} {w : World} {K : PySem.W.Frag} {mg : Str → Option Value} {base : Heap} {k : Nat} {f : Addr} {name qual : Str} {params : Arguments} {body : List Stmt} {scope : Scope} {dV kV doc pm cdv ct oc : Value} {an od : Option Addr}
    {osl : Array (Option Value)} {N ps : List Str} {sp : SpG} (lk : K.lookup f = some ⟨oc, od, .func (PySem.W.fnOf name qual params body scope dV kV doc pm an cdv ct), osl⟩) (hcd : PySem.W.codeIn K cdv qual = true) (S : GScope N ps scope)
    (len : ∀ vs H Q, sp vs H Q → vs.length = ps.length)
    (hbody : ∀ (A : Around) (outer : List Env) (s : Shared) (H : Hp) (vs : List V) (Q : List V → Hp → Prop) (pn : List (Addr × Obj)), Room k (A.deeper (envOfC qual scope s.heap.objs.size f cdv)) → sp vs H Q →
      ∃ t, GSs (gX P w K mg base N qual scope f cdv A outer s H pn) body t ∧ t { nx := fun ys _ H' => Q ys H', rt := fun ys v H' => v = .non ∧ Q ys H' } [] (start N vs) H) :
    GFn P w K mg base (k + 1) f (PySem.W.fnOf name qual params body scope dV kV doc pm an cdv ct) ps sp := by
  refine ⟨len, fun A outer s H args us vs Q hr e0 hb r hsp => ?_⟩
  have hl := len _ _ _ hsp
  have KX : K.In s.heap := e0.mod.kin.keeps fun b o e => (e0.bs b o e).1
  have lim : s.heap.NoLimit := e0.mod.nolimit.keeps fun b o e => (e0.bs b o e).1
  have hkind : ∀ y ∈ ps.zip us, scope.names.lookup y.1 = some .local ∨ (scope.names.lookup y.1 = some .cell ∧ ((cellsFrom (s.heap.objs.size + 1) scope.names []).lookup y.1).isSome = true) := fun ⟨n, v⟩ hy => by
    rcases S.par n (List.of_mem_zip hy).1 with q | q
    · exact .inl q
    · exact .inr ⟨q, PySem.W.cellsFrom_some _ _ _ (.inl q)⟩
  refine codeAny_call_generator hr.depth (KX _ _ lk) rfl S.co S.gen rfl (PySem.W.codeRec_of KX hcd) (hb _ _ _ _ ?_)
  refine wpAny_newFunctionEnv_cells S.kind hkind fun env he s1 x => ?_
  subst he
  have lim1 : s1.heap.NoLimit := lim.keeps x.toInCall.keep
  refine ⟨lim1, ?_⟩
  obtain ⟨h1, tk, es1, hk1⟩ := x.done
  have os1 : s1.os = s.os := by rw [es1]
  have gen1 : s1.gens = s.gens := by rw [es1]
  have lt1 : s.heap.objs.size < s1.heap.objs.size := x.toInCall.ns.lt
  have sz1 : s.heap.objs.size ≤ s1.heap.objs.size := Nat.le_of_lt lt1
  have kp1 : ∀ b o, s.heap.get? b = some o → s1.heap.get? b = some o := x.toInCall.keep
  have main : ∀ (go : Obj) (nm qn : Value) (tk2 : Nat), go.cls = .type "generator" → go.data = .fields #[.int s1.gens.size 0, nm, qn] → go.slots = #[] → (∀ h : Heap, (h.push go).get? h.objs.size = some go) →
      GMade P w (k + 1) outer H s Q (.ref s1.heap.objs.size) { s1 with gens := s1.gens.push (.fresh (.func body (envOfC qual scope s.heap.objs.size f cdv))), toks := tk2, heap := s1.heap.push go } := by
    intro go nm qn tk2 hgc hgd0 hgs hgp
    have hgen : ∀ h : Heap, h.get? s1.heap.objs.size = some go → h.IsGen s1.heap.objs.size s1.gens.size := fun h e => ⟨go, nm, qn, e, hgc, hgd0, hgs⟩
    have hpushed : (s1.heap.push go).get? s1.heap.objs.size = some go := hgp _
    refine ⟨s1.heap.objs.size, s1.gens.size, _, rfl, sz1, ?_, hgen _ hpushed, Array.getElem?_push_size .., os1, ?_, lim1.keeps fun b o e => Heap.get?_push_of_some _ e, fun b o e => Heap.get?_push_of_some _ (kp1 b o e), ?_⟩
    · show _ < (s1.heap.push _).objs.size
      rw [Heap.size_push]; exact Nat.lt_succ_self _
    · exact AllBare.push (by rw [gen1]; exact e0.bare) rfl
    intro Aw Sx Cc s2 hrw hfr hSx hCx hSC hk2 hSo hCo hos hba
    have e0w : Env0 P w K mg base Aw outer s H := ⟨hfr, e0.mod, e0.bs, e0.bsz, e0.funs, e0.frf, e0.hok, e0.bare⟩
    obtain ⟨t, ht, hq⟩ := hbody Aw outer s H vs Q [(s1.heap.objs.size, go)] (hrw.deeper _) hsp
    have I1 : Inv (gcxOf P w K mg base N qual scope f cdv Aw outer s H E0 []) [] (start N vs) H s1 := inv_startG S hrw.hd e0w hl r x
    have kp2 : ∀ b o, s1.heap.get? b = some o → s2.heap.get? b = some o := fun b o e => hk2 b o (Heap.get?_push_of_some _ e)
    have I2 : Inv (gcxOf P w K mg base N qual scope f cdv Aw outer s H E0 []) [] (start N vs) H s2 :=
      I1.call' (ch := []) (hos.trans os1.symm) (Un.kept kp2) (I1.hok.kept kp2) hba fun b z => by simp at z
    have big : ∀ {b : Addr}, (s1.heap.push go).objs.size ≤ b → s1.heap.objs.size < b := fun {b} h => by
      rw [Heap.size_push] at h
      exact h
    have hSz : s1.heap.objs.size < Sx := big hSx
    have hCz : s1.heap.objs.size < Cc := big hCx
    obtain ⟨cS, heS⟩ := hSo
    obtain ⟨oC, heC, hCd⟩ := hCo
    have hea : s2.heap.get? s1.heap.objs.size = some go := hk2 s1.heap.objs.size go hpushed
    have hgd : ∀ v, go.data ≠ .cell v := fun v q => by rw [hgd0] at q; cases q
    have young : ∀ b, s1.heap.objs.size ≤ b → H b = none ∧ b ≠ s.heap.objs.size ∧ b ∉ frs outer ∧ s.heap.objs.size ≤ b ∧ ∀ y c, (cellsFrom (s.heap.objs.size + 1) scope.names []).lookup y = some c → c ≠ b := fun b hb => by
      refine ⟨I1.hok.fresh hb, Nat.ne_of_gt (Nat.lt_of_lt_of_le lt1 hb), I1.nofs hb, Nat.le_trans sz1 hb, fun y c e z => ?_⟩
      obtain ⟨v, ob, ho, _⟩ := I1.cell y c e
      have := Heap.lt_size ho
      rw [z] at this
      exact absurd (Nat.lt_of_lt_of_le this hb) (Nat.lt_irrefl _)
    have I3 : Inv (gX P w K mg base N qual scope f cdv Aw outer s H [(s1.heap.objs.size, go)]) [] (start N vs) H s2 := Inv.ours I2 fun p hp => by
      rw [List.mem_singleton.mp hp]
      obtain ⟨y1, y2, y3, _, _⟩ := young s1.heap.objs.size (Nat.le_refl _)
      exact ⟨hea, y1, y2, y3, hgd⟩
    have hG : GI (gX P w K mg base N qual scope f cdv Aw outer s H [(s1.heap.objs.size, go)]) Sx Cc [] [] (start N vs) H s2 s2 := by
      refine ⟨#[], cS, oC, .nil, heS, heC, I3.pins_of fun p hp => ?_⟩
      have e : p = (Sx, lstObj #[] cS) ∨ p = (Cc, oC) := by simpa using hp
      rcases e with z | z
      · rw [z]
        obtain ⟨y1, y2, y3, _, _⟩ := young Sx (Nat.le_of_lt hSz)
        exact ⟨heS, y1, y2, y3, fun v q => by cases q⟩
      · rw [z]
        obtain ⟨y1, y2, y3, _, _⟩ := young Cc (Nat.le_of_lt hCz)
        exact ⟨heC, y1, y2, y3, hCd⟩
    have hAp : Apart (gX P w K mg base N qual scope f cdv Aw outer s H [(s1.heap.objs.size, go)]) Sx Cc := by
      obtain ⟨_, y2, _, y4, y5⟩ := young Sx (Nat.le_of_lt hSz)
      obtain ⟨_, z2, _, z4, z5⟩ := young Cc (Nat.le_of_lt hCz)
      exact ⟨⟨y4, y2, y5⟩, ⟨z4, z2, z5⟩, hSC⟩
    have hpn : ∀ p ∈ [(s1.heap.objs.size, go)], p.1 ≠ Sx ∧ p.1 ≠ Cc := fun p hp => by
      rw [List.mem_singleton.mp hp]
      exact ⟨Nat.ne_of_lt hSz, Nat.ne_of_lt hCz⟩
    have pinned : ∀ {ip : List (Addr × Obj)} {ys : List V} {s0 s' : Shared} {σ' : L2.St} {H' : Hp}, GI (gX P w K mg base N qual scope f cdv Aw outer s H [(s1.heap.objs.size, go)]) Sx Cc ip ys σ' H' s0 s' → s'.heap.IsGen s1.heap.objs.size s1.gens.size := fun {ip ys s0 s' σ' H'} hI => by
      obtain ⟨acc, cc, oC, _, _, _, J⟩ := hI
      exact hgen _ (J.pin (s1.heap.objs.size, go) (List.mem_append_left _ (List.mem_singleton.mpr rfl))).1
    refine seg_func ?_
    refine seg_imp (R := GR (gX P w K mg base N qual scope f cdv Aw outer s H [(s1.heap.objs.size, go)]) Sx Cc (fun ys v H' => v = .non ∧ Q ys H'))
      (Y := GY (gX P w K mg base N qual scope f cdv Aw outer s H [(s1.heap.objs.size, go)]) Sx Cc) (fun n s₀ r s1' hR => ?_) (fun n s₀ v s1' kap kap' hkk hY => ?_) sizeLine ?_
    · cases r with
      | error e => exact False.elim hR
      | ok fl =>
        cases fl with
        | next => exact False.elim hR
        | brk => exact False.elim hR
        | cont => exact False.elim hR
        | ret u =>
          obtain ⟨ys, v, ip, σ', H', hn, hI, rv, ev, hQ⟩ := hR
          subst ev
          have eu : u = Value.none := rv
          subst eu
          obtain ⟨a1, a2, _, a4, acc, cc, ra, ea⟩ := hI.at
          obtain ⟨_, _, _, _, _, _, J⟩ := hI
          exact .inl ⟨.inl rfl, H', ys, acc, cc, J.os, J.bare, J.base, J.hok, a1, a2, ea, ra, by omega, a4, hQ⟩
    · obtain ⟨ys, t, x0, x1, x2, ip, σ', H', hn, rfl, h2, hI, h3⟩ := hY
      obtain ⟨_, _, b1, b2, acc, cc, ra, ea⟩ := hI.at
      have hg := pinned hI
      obtain ⟨_, _, _, _, _, _, J⟩ := hI
      have hsz : acc.size = ys.length := by
        have e1 := ra.length
        have e2 : acc.toList.length = acc.size := by simp
        omega
      obtain ⟨_, its, rv, o, ho, hoc, m, hod⟩ := J.hok t _ h2
      have rl := rv.length
      match its, rl, hod with
      | [u0, u1, u2], _, hod =>
        exact ⟨J.os, J.bare, J.nolimit, hg, b1, b2, ⟨acc, cc, ea, by rw [hsz]; exact hn⟩, ⟨t, u0, u1, u2, rfl, o, ho, hoc, m, hod⟩, fun s' z => hkk _ _ (h3 s' z)⟩
    · refine ht.run Aw Sx Cc [] _ sizeLine [] s2 _ [] _ _ id id s2 (start N vs) H _ ⟨hpn, fun p hp => (by simp at hp), hAp, over_func, rfl, rfl, rfl⟩ (Nat.add_zero _) (fun n ys s₀ s' fl hn hs => ?_) hG hq
      cases fl with
      | next =>
        obtain ⟨σ', H', hI, hQ⟩ := hs
        exact seg_end (.ok (.ret .none)) ⟨ys, .non, [], σ', H', hn, hI, rfl, rfl, hQ⟩
      | brk => obtain ⟨_, _, _, q⟩ := hs; exact False.elim q
      | cont => obtain ⟨_, _, _, q⟩ := hs; exact False.elim q
      | ret u =>
        obtain ⟨v, σ', H', hI, rv, ev, hQ⟩ := hs
        exact seg_end (.ok (.ret u)) ⟨ys, v, [], σ', H', hn, hI, rv, ev, hQ⟩
  exact main _ _ _ _ rfl rfl rfl fun h => Heap.get?_push_size _ rfl
end Gn
end K45
-- G3
set_option maxHeartbeats 2000000
/-! [c for a, b, c in g(..)], g a generator def -/
namespace K45
namespace Gn
open PySem PySem.Spec PyProof.Rows GenW L2
section
variable {X : Cx} {k : Nat} {f : Addr} {fd : FuncData} {ps : List Str} {sp : SpG} {nm x y z : Str} {p pos pos' px py pz pz' tp : Pos} {kk : Nat} {e : Expr} {es : List Expr} {ta : TA} {scope : Scope}
def tLcG (sp : SpG) (ta : TA) : TE := fun σ H Q => ta σ H fun vs H1 => sp vs H1 fun ys H2 => ∀ D, H2 D = none → Q (.ref D) (upd H2 D (.lst ys))
theorem run_gfn {pins : List (Addr × Obj)} {σ : L2.St} {H : Hp} {s : Shared} {us : List Value} {vs : List V} {cont : List V → Hp → Prop} {E1 : Value → Shared → Prop} (F : GFn X.prog X.w X.K X.mg X.base k f fd ps sp) (hr : Room k X.A) (hb : Binds X.K fd ps [])
    (I : Inv X pins σ H s) (r : Vals vs us) (h : sp vs H cont) : wpAny (model X.prog X.w) X.A (call (.ref f) us) (fun u s' => GMade X.prog X.w k X.stack H s cont u s') E1 s := by
  have hl2 : (us ++ []).length = ps.length := by rw [List.append_nil, ← r.length]; exact F.len _ _ _ h
  have hb2 := hb s us I.kIn hl2
  rw [List.append_nil] at hb2
  refine wpAny_call (codeAny_mono (F.run X.A X.stack s H ⟨us, []⟩ us vs cont hr I.env0 hb2 r h) fun r s' hq => ?_)
  cases r with
  | error e => exact False.elim hq
  | ok fl =>
    cases fl with
    | ret u => exact hq
    | next => exact False.elim hq
    | brk => exact False.elim hq
    | cont => exact False.elim hq
theorem pe_lcG (hc : X.calm = true) (F : GFn X.prog X.w X.K X.mg X.base k f fd ps sp) (hr : Room (k + 1) X.A) (hg : Gl X nm) (hm : X.mg nm = some (.ref f)) (kp : PySem.W.keepIn X.K (.ref f) = true) (hb : Binds X.K fd ps []) (ha : PA X (e :: es) ta)
    (hkind : scope.kind = .function) (huniq : ∀ y ∈ scope.names, scope.names.lookup y.1 = some y.2) (hfree : ∀ y ∈ scope.names, y.2 = .free → X.env.scope.names.lookup y.1 = some .cell ∨ X.env.scope.names.lookup y.1 = some .free)
    (hx : scope.names.lookup x = some .local) (hy : scope.names.lookup y = some .local) (hz : scope.names.lookup z = some .local) (hzd : (z == ("__debug__" : Str)) = false := by decide)
    (hdb : (nm == ("__debug__" : Str)) = false := by decide) (he : starEach (e :: es) X.env = (false, eval e X.env) :: starEach es X.env := by rfl) (hpl : (backTo pos' (starEach es X.env)).any (·.1) = false := by rfl)
    (hs : ∀ x, foldedSetIterable (.Call (.Name nm p) (e :: es) [] pos') X.env x = pure x := by intro _; rfl) :
    PE X (.ListComp (.Name z pz') [⟨.Tuple [.Name x px, .Name y py, .Name z pz] kk tp, .Call (.Name nm p) (e :: es) [] pos', [], 0⟩] scope pos) (tLcG sp ta) := by
  refine ⟨fun pins s σ H Q I h => ?_⟩
  rw [eval_ListComp]
  have hcl : ∀ y ∈ scope.names, y.2 = .free → ∃ c, X.env.cells.lookup y.1 = some c := fun y hy e => by
    rcases hfree y hy e with k | k
    · exact I.ok.has _ (.inl k)
    · exact I.ok.has _ (.inr k)
  refine wpAny_comprehension_free (use := none) rfl hs (closure_ok hcl) hkind (fun y hy e => by rw [huniq y hy, e]) ?_
  refine wpAny_Call_Name_kw (ld_glob I hg hm ?_ hdb)
  refine PySem.W.callWith_K (h₀ := X.base) I.ok.mod.kin kp (thn (ha.run pos' pins s σ H _ I h) fun us s1 ⟨vs, H1, I1, r1, q1⟩ => ⟨I1.kIn, ?_⟩) he hpl
  refine wpAny_mono (run_gfn (E1 := fun _ _ => False) F (hr.mono (Nat.le_succ k)) hb I1 r1 q1) (fun u s2 hG => ?_) fun _ _ q => q.elim
  obtain ⟨a, g, c, rfl, ha1, ha2, hgen, hgs, hos, hbare, hlim, hkp, wake⟩ := hG
  have hsz12 : s1.heap.objs.size ≤ s2.heap.objs.size := Nat.le_trans ha1 (Nat.le_of_lt ha2)
  refine wpAny_pyIter_gen hgen ?_
  refine wpAny_newObj_type (newEnv_comp ?_) (by show 0 ≤ sizeLine; decide)
  generalize hD : s2.heap.objs.size = D
  have hDa : D ≠ a := by rw [← hD]; exact Nat.ne_of_gt ha2
  generalize hs3 : ({ s2 with heap := s2.heap.push { cls := .type "list", data := .seq ([] : List Value).toArray } } : Shared) = s3
  have h3 : s3.heap = s2.heap.push { cls := .type "list", data := .seq ([] : List Value).toArray } := by rw [← hs3]
  have z3 : s3.heap.objs.size = D + 1 := by rw [h3, Heap.size_push, hD]
  show codeAny _ _ (.compStart _ 0 (.ref a) (.ref D) (compEnvC scope (cellsFrom (s3.heap.objs.size + 1) scope.names (cloFrom X.env.cells scope.names [])) s3.heap.objs.size X.env)) (compPost (model X.prog X.w) X.A X.xe none (EP X pins σ Q) (.ref D) s3.heap.objs.size) { s3 with heap := pushCells (s3.heap.push { cls := .type "dict", data := .dict #[] }) scope.names }
  generalize hce : compEnvC scope (cellsFrom (s3.heap.objs.size + 1) scope.names (cloFrom X.env.cells scope.names [])) s3.heap.objs.size X.env = ce
  generalize hC : s3.heap.objs.size = C
  have hCD : C = D + 1 := by rw [← hC, z3]
  have cL : ce.locals = C := by rw [← hce, ← hC]; rfl
  have cK : ce.scope.kind = .function := by rw [← hce]; exact hkind
  have cO : ∀ {y : Str}, scope.names.lookup y = some .local → ce.kindOf y = some .local := fun {y} h => by
    rw [← hce]; exact lookup_relabel_local h
  have cp : (ce.scope.kind == .class || (ce.scope.kind == .module && ce.locals != ce.globals)) = false := by rw [cK]; rfl
  generalize hs4 : ({ s3 with heap := pushCells (s3.heap.push { cls := .type "dict", data := .dict #[] }) scope.names } : Shared) = s4
  have k34 : ∀ b o, s3.heap.get? b = some o → s4.heap.get? b = some o := fun b o e => by rw [← hs4]; exact pushCells_keeps _ _ _ _ (Heap.get?_push_of_some _ e)
  have k24 : ∀ b o, s2.heap.get? b = some o → s4.heap.get? b = some o := fun b o e => k34 b o (by rw [h3]; exact Heap.get?_push_of_some _ e)
  have hS4 : s4.heap.get? D = some (lstObj #[] 0) := k34 D _ (by rw [h3, ← hD]; exact Heap.get?_push_size _ rfl)
  have hN4 : s4.heap.Ns C fun _ => none := by
    rw [← hC, ← hs4]
    exact Heap.Ns.keeps (Heap.Ns.new ..) fun b o e => pushCells_keeps _ _ _ _ e
  have os4 : s4.os = s1.os := by rw [← hs4, ← hs3]; exact hos
  have gens4 : s4.gens = s2.gens := by rw [← hs4, ← hs3]
  have hgl : g < s2.gens.size := (Array.getElem?_eq_some_iff.mp hgs).1
  have hclt : cStatics < D := by obtain ⟨_, hn, _⟩ := hlim; rw [← hD]; exact hn.lt
  have hDc : D ≠ C := by rw [hCD]; exact Nat.ne_of_lt (Nat.lt_succ_self D)
  have hCle : s2.heap.objs.size ≤ C := by rw [hCD, ← hD]; exact Nat.le_succ _
  have haD : a < D := by rw [← hD]; exact ha2
  have hcC : cStatics ≠ C := by rw [hCD]; exact Nat.ne_of_lt (Nat.lt_succ_of_lt hclt)
  have gen4 : s4.heap.IsGen a g := hgen.keeps k24
  have hCa : C ≠ a := by rw [hCD]; exact Ne.symm (Nat.ne_of_lt (Nat.lt_succ_of_lt haD))
  have go4 : ∃ gs, s4.gens[g]? = some gs ∧ gs.Goes (model X.prog X.w) X.A.in1 (REnd X.prog X.w X.stack H1 s1 D C (fun ys H2 => ∀ D, H2 D = none → Q (.ref D) (upd H2 D (.lst ys)))) (YItem s1 D C a g) sizeLine (.send .none) (s4.setGen g .running) := by
    refine ⟨.fresh c, by rw [gens4]; exact hgs, rfl, wake X.A.in1 D C (s4.setGen g .running) hr.in1 I1.ok.frames (Nat.le_of_eq hD) hCle hDc k24 ⟨0, hS4⟩ ?_ os4 (allBare_setGen (by rw [gens4]; exact hbare) rfl)⟩
    obtain ⟨o, es, ep, ho, hd, _⟩ := hN4
    exact ⟨o, ho, fun v q => by rw [hd] at q; cases q⟩
  have loop : codeAny (model X.prog X.w) X.A (.compLoop (.ListComp (.Name z pz') [⟨.Tuple [.Name x px, .Name y py, .Name z pz] kk tp, .Call (.Name nm p) (e :: es) [] pos', [], 0⟩] scope pos) 0 (.ref a) (.ref D) ce) (compPost (model X.prog X.w) X.A X.xe none (EP X pins σ Q) (.ref D) C) s4 := by
    refine compLoop_any (fun n s' => s'.heap.IsGen a g ∧ s'.heap.NoLimit ∧ (∃ mm, s'.heap.Ns C mm) ∧ ∃ gs, s'.gens[g]? = some gs ∧ gs.Goes (model X.prog X.w) X.A.in1 (REnd X.prog X.w X.stack H1 s1 D C (fun ys H2 => ∀ D, H2 D = none → Q (.ref D) (upd H2 D (.lst ys)))) (YItem s1 D C a g) n (.send .none) (s'.setGen g .running)) ?_ sizeLine
      ⟨gen4, hlim.keeps k24, ⟨_, hN4⟩, go4⟩
    rintro n s5 ⟨g5, l5, ⟨mm, n5⟩, gs, hgs5, hgo⟩
    have hgl5 : g < s5.gens.size := (Array.getElem?_eq_some_iff.mp hgs5).1
    refine wpAny_gsz (n := g + 1) hgl5 (next_genG (A := X.A) (Er := fun _ _ => False) (I1.ok.hd hc) l5 (by have := hr.dp; omega) g5 hgs5 hgo (fun v s₁ gs' hb1 hv => ?_) (fun s₁ hp h' hk => ?_) fun e s₁ q => q.elim)
    · intro hsz
      obtain ⟨os1, bare1, l1, g1, eS, eC, ⟨acc, cc, eS1, hasz⟩, ⟨t, u0, u1, u2, rfl, ht⟩, hkap⟩ := hv
      have hsz1 : g < s₁.gens.size := by
        have q : (s₁.setGen g gs').gens.size = s₁.gens.size := setGen_size _ _ _
        have hsz' : g + 1 ≤ (s₁.setGen g gs').gens.size := hsz
        omega
      have n1 : s₁.heap.Ns C mm := n5.at' fun o q => eC.trans q
      obtain ⟨og, nmv, qn, hog, hgc, hgd, hgsl⟩ := id g1
      refine go_of (s := s₁.setGen g gs') hog hgc hgd (by decide) ?_
      refine assign_Tuple_tuple (s := s₁.setGen g gs') (I1.ok.hd hc) ht rfl rfl fun h2 hx2 => ?_
      have hlt1 : ∀ b o, s₁.heap.get? b = some o → h2.get? b = some o := fun b o q => hx2 b o (Nat.ne_of_lt (Heap.lt_size q)) q
      have n2 : h2.Ns ce.locals mm := by rw [cL]; exact n1.keeps hlt1
      refine assignInOrder_cons (wpAny_assign_Name (wpAny_storeName_local (cO hx) n2 (fun h3 n3 sb3 => ?_) cp))
      refine assignInOrder_cons (wpAny_assign_Name (wpAny_storeName_local (cO hy) n3 (fun h4 n4 sb4 => ?_) cp))
      refine assignInOrder_cons (wpAny_assign_Name (wpAny_storeName_local (cO hz) n4 (fun h5 n5' sb5 => ?_) cp))
      refine assignInOrder_nil (wpAny_tests_nil ?_)
      rw [if_pos rfl]
      have keep5 : ∀ b o, b ≠ C → s₁.heap.get? b = some o → h5.get? b = some o := fun b o hb q => by
        rw [cL] at sb3 sb4 sb5
        exact sb5.extBut b o hb (sb4.extBut b o hb (sb3.extBut b o hb (hlt1 b o q)))
      refine wpAny_Name (wpAny_loadName_local cK (cO hz) n5' (v := u2) (if_pos rfl) ?_) hzd
      have eS5 : h5.get? D = some (lstObj acc cc) := keep5 D _ hDc eS1
      refine append_at (hsz := by omega) eS5 fun h6 sb6 hn6 => ?_
      have keep6 : ∀ b o, b ≠ D → b ≠ C → s₁.heap.get? b = some o → h6.get? b = some o := fun b o hb hb2 q => sb6.extBut b o hb (keep5 b o hb2 q)
      have n6 : h6.Ns C (fun y' => if y' = z then some u2 else if y' = y then some u1 else if y' = x then some u0 else mm y') := by
        rw [cL] at n5'
        exact n5'.sameBut sb6 (Ne.symm hDc)
      obtain ⟨oC, esC, epC, hoC, hdC, _⟩ := id n6
      have sl : ∀ (s' : Shared), s'.heap = h6 → s'.os = s₁.os → AllBare s'.gens → Slept D C (.ref t) s₁ s' := fun s' e1 e2 e3 => by
        refine ⟨e2, e3, fun b o hb hb2 q => by rw [e1]; exact keep6 b o hb hb2 q, fun acc' c' q t' o u0' u1' u2' n' et eo ed => ?_, fun o q d => ⟨oC, by rw [e1]; exact hoC, fun v q => by rw [hdC] at q; cases q⟩⟩
        rw [eS1] at q
        cases q
        cases et
        obtain ⟨o2, ho2, hc2, m2, hd2⟩ := ht
        have ho2 : s₁.heap.get? t = some o2 := ho2
        rw [ho2] at eo
        cases eo
        rw [hd2] at ed
        cases ed
        exact ⟨cc + 1, by rw [e1]; exact hn6⟩
      have bare6 : AllBare ((s₁.setGen g gs').setGen g .running).gens := allBare_setGen (allBare_setGen bare1 hb1) rfl
      cases n with
      | zero => exact (hkap _ (sl { (s₁.setGen g gs').setGen g .running with heap := h6 } rfl rfl bare6)).elim
      | succ n =>
        refine ⟨n, Nat.lt_succ_self n, ?_, ?_, ⟨_, n6⟩, gs', setGen_at hsz1, ?_⟩
        · exact ⟨og, nmv, qn, keep6 a og (Ne.symm hDa) (Ne.symm hCa) hog, hgc, hgd, hgsl⟩
        · obtain ⟨mc, hns, hnn⟩ := l1
          exact ⟨mc, hns.at' fun o q => keep6 _ o (Nat.ne_of_lt hclt) hcC q, hnn⟩
        · exact hkap _ (sl _ rfl rfl bare6)
    · intro hsz
      obtain ⟨H', ys, acc, cc, os1, bare1, un, hok, hSn, hCn, eS, hv, hle, eC, hQ⟩ := hp
      have n1 : s₁.heap.Ns C mm := n5.at' fun o q => eC.trans q
      have n2 : h'.Ns C mm := n1.keeps hk
      have I7 : Inv X pins σ (upd H' D (.lst ys)) { s₁.setGen g .finished with heap := h' } :=
        I1.drained (s' := { s₁.setGen g .finished with heap := h' }) (by rw [← hD]; exact hsz12) hle (hk _ _ eS) hv ExOk.nil os1 (allBare_setGen bare1 rfl) (un.trans (Un.kept hk)) (hok.kept hk) hSn
      have hCn' : upd H' D (.lst ys) C = none := by rw [upd_ne (Ne.symm hDc)]; exact hCn
      obtain ⟨f0, f1, f2, f3, f4, f5⟩ := I1.fpOk (b := C) (H' := upd H' D (.lst ys)) (Nat.le_trans hsz12 hCle) hCn'
      refine ⟨mm, n2, fun h'' sb => ?_⟩
      exact ⟨.ref D, _, I7.turned (t' := s₁.toks) (fun b o hb q => (sb.2 b hb).trans q) f0 f1 f3 f4 f5, rfl, hQ D hSn⟩
  exact codeAny_compStart_list loop (wpAny_pyIter_gen gen4 loop)
end
end Gn
end K45
-- B1
set_option maxHeartbeats 2000000
/-! A calculus of plain data over the hand layer: what an expression is worth is told by data alone; B is the part of the heap that holds data, H the whole heap. -/
namespace K45
open PySem PySem.Spec PyProof.Rows L2
open Evl (Ex ex_rd ex_l ex_t)

abbrev St := L2.St
/-- what is known of a slot: nothing; data; a list of the call's own that may still change; this very value -/
inductive Sl where
  | u | d (x : PyData) | m (xs : List PyData) | v (x : V)

/-- data grows with the heap -/
structure Grow (B H B' H' : Hp) : Prop where
  bb : Ex B B'
  hh : Ex H H'
  bh : Ex B' H'
  nw : ∀ a o, H a = some o → B a = none → B' a = none
theorem Grow.rfl' {B H : Hp} (h : Ex B H) : Grow B H B H := ⟨Ex.refl B, Ex.refl H, h, fun _ _ _ e => e⟩
theorem Grow.trans {B H B1 H1 B2 H2 : Hp} (a : Grow B H B1 H1) (b : Grow B1 H1 B2 H2) : Grow B H B2 H2 :=
  ⟨a.bb.trans b.bb, a.hh.trans b.hh, b.bh, fun x o e n => b.nw x o (a.hh x o e) (a.nw x o e n)⟩
/-- a new thing that is data -/
theorem Grow.put {B H : Hp} {p : Addr} {o : HO} (h : Ex B H) (hp : H p = none) : Grow B H (upd B p o) (upd H p o) := by
  have bp : B p = none := Evl.fresh_back h hp
  refine ⟨Ex.new bp, Ex.new hp, fun a q e => ?_, fun a q e n => ?_⟩
  · by_cases z : a = p
    · subst z; rw [upd_same] at e ⊢; exact e
    · rw [upd_ne z] at e ⊢; exact h a q e
  · rw [upd_ne (ne_of_none e hp)]; exact n
/-- a new thing that is no data -/
theorem Grow.side {B H : Hp} {p : Addr} {o : HO} (h : Ex B H) (hp : H p = none) : Grow B H B (upd H p o) :=
  ⟨Ex.refl B, Ex.new hp, h.trans (Ex.new hp), fun _ _ _ n => n⟩
/-- a list of the call's own is changed -/
theorem Grow.mut {B0 H0 B H : Hp} {p : Addr} {o : HO} (g : Grow B0 H0 B H) (h0 : H0 p = none) (bp : B p = none) : Grow B0 H0 B (upd H p o) :=
  ⟨g.bb, Ex.mut g.hh h0, Ex.mut g.bh bp, g.nw⟩
/-- a list of the call's own becomes data -/
theorem Grow.freeze {B0 H0 B H : Hp} {p : Addr} {o : HO} (g : Grow B0 H0 B H) (h0 : H0 p = none) (hp : H p = some o) (bp : B p = none) : Grow B0 H0 (upd B p o) H := by
  refine ⟨g.bb.trans (Ex.new bp), g.hh, fun a q e => ?_, fun a q e n => ?_⟩
  · by_cases z : a = p
    · subst z; rw [upd_same] at e; rw [← e]; exact hp
    · rw [upd_ne z] at e; exact g.bh a q e
  · rw [upd_ne (ne_of_none e h0)]; exact g.nw a q e n

mutual
/-- a value stands for data: its lists and tuples are tracked -/
inductive Rp (H : Hp) : V → PyData → Prop
  | non : Rp H .non .none
  | bl (b : Bool) : Rp H (.bl b) (.bool b)
  | int (i : Int) : Rp H (.int i) (.int i)
  | str (x : Str) : Rp H (.str x) (.str x)
  | lst {a : Addr} {xs : List V} {ds : List PyData} : H a = some (.lst xs) → RpAll H xs ds → Rp H (.ref a) (.list ds)
  | tup {a : Addr} {xs : List V} {ds : List PyData} : H a = some (.tup xs) → RpAll H xs ds → Rp H (.ref a) (.tuple ds)
  | dic {a : Addr} : H a = some (.dK []) → Rp H (.ref a) (.dict [])
inductive RpAll (H : Hp) : List V → List PyData → Prop
  | nil : RpAll H [] []
  | cons {v : V} {vs : List V} {d : PyData} {ds : List PyData} : Rp H v d → RpAll H vs ds → RpAll H (v :: vs) (d :: ds)
end
section
variable {B B' H H' H0 : Hp}
mutual
theorem rp_dp {K : PySem.W.Frag} : ∀ {v : V} {d : PyData}, Rp H v d → d.canLay0 = true → Dp K H v d
  | _, _, .non, _ => .non
  | _, _, .bl b, _ => .bl b
  | _, _, .int i, _ => .int i
  | _, _, .str x, _ => .str x
  | _, _, .lst s a, e => .lst (SqL.of s) (rpa_dpa a (by simpa [PyData.canLay0] using e))
  | _, _, .tup s a, e => .tup (SqT.of s) (rpa_dpa a (by simpa [PyData.canLay0] using e))
  | _, _, .dic _, e => by simp [PyData.canLay0] at e
theorem rpa_dpa {K : PySem.W.Frag} : ∀ {vs : List V} {ds : List PyData}, RpAll H vs ds → PyData.canLayAll0 ds = true → DpAll K H vs ds
  | _, _, .nil, _ => .nil
  | _, _, .cons h t, e => by
    rw [PyData.canLayAll0, Bool.and_eq_true] at e
    exact .cons (rp_dp h e.1) (rpa_dpa t e.2)
end
mutual
theorem dp_mono (e : Ex H H') : ∀ {v : V} {d : PyData}, Rp H v d → Rp H' v d
  | _, _, .non => .non
  | _, _, .bl b => .bl b
  | _, _, .int i => .int i
  | _, _, .str x => .str x
  | _, _, .lst s a => .lst (e _ _ s) (dpa_mono e a)
  | _, _, .tup s a => .tup (e _ _ s) (dpa_mono e a)
  | _, _, .dic s => .dic (e _ _ s)
theorem dpa_mono (e : Ex H H') : ∀ {vs : List V} {ds : List PyData}, RpAll H vs ds → RpAll H' vs ds
  | _, _, .nil => .nil
  | _, _, .cons h t => .cons (dp_mono e h) (dpa_mono e t)
end
theorem RpAll.len : ∀ {vs : List V} {ds : List PyData}, RpAll H vs ds → vs.length = ds.length
  | _, _, .nil => rfl
  | _, _, .cons _ t => by rw [List.length_cons, List.length_cons, RpAll.len t]
theorem RpAll.get : ∀ {vs : List V} {ds : List PyData} {i : Nat} {d : PyData}, RpAll H vs ds → ds[i]? = some d → ∃ v, vs[i]? = some v ∧ Rp H v d
  | _, _, _, _, .nil, e => by simp at e
  | _, _, 0, _, .cons h _, e => by simp at e; subst e; exact ⟨_, rfl, h⟩
  | _, _, i + 1, _, .cons _ t, e => by
    obtain ⟨v, h1, h2⟩ := RpAll.get (i := i) t (by simpa using e)
    exact ⟨v, by simpa using h1, h2⟩
theorem RpAll.get' : ∀ {vs : List V} {ds : List PyData} {i : Nat} {v : V}, RpAll H vs ds → vs[i]? = some v → ∃ d, ds[i]? = some d ∧ Rp H v d
  | _, _, _, _, .nil, e => by simp at e
  | _, _, 0, _, .cons h _, e => by simp at e; subst e; exact ⟨_, rfl, h⟩
  | _, _, i + 1, _, .cons _ t, e => by
    obtain ⟨v, h1, h2⟩ := RpAll.get' (i := i) t (by simpa using e)
    exact ⟨v, by simpa using h1, h2⟩
theorem RpAll.append : ∀ {vs ws : List V} {ds es : List PyData}, RpAll H vs ds → RpAll H ws es → RpAll H (vs ++ ws) (ds ++ es)
  | _, _, _, _, .nil, s => s
  | _, _, _, _, .cons h t, s => .cons h (RpAll.append t s)
theorem RpAll.set {v : V} {d : PyData} (h : Rp H v d) : ∀ {vs : List V} {ds : List PyData} (i : Nat), RpAll H vs ds → RpAll H (vs.set i v) (ds.set i d)
  | _, _, _, .nil => .nil
  | _, _, 0, .cons _ t => .cons h t
  | _, _, i + 1, .cons q t => .cons q (RpAll.set h i t)
theorem RpAll.take : ∀ {vs : List V} {ds : List PyData} (n : Nat), RpAll H vs ds → RpAll H (vs.take n) (ds.take n)
  | _, _, 0, _ => by rw [List.take_zero, List.take_zero]; exact .nil
  | _, _, _ + 1, .nil => .nil
  | _, _, n + 1, .cons h t => .cons h (RpAll.take n t)
theorem RpAll.drop : ∀ {vs : List V} {ds : List PyData} (n : Nat), RpAll H vs ds → RpAll H (vs.drop n) (ds.drop n)
  | _, _, 0, h => h
  | _, _, _ + 1, .nil => .nil
  | _, _, n + 1, .cons _ t => RpAll.drop n t
theorem RpAll.ints : ∀ {vs : List V} {ns : List Int}, RpAll H vs (ns.map PyData.int) → vs = ns.map V.int
  | _, [], h => by cases h; rfl
  | _, n :: ns, h => by
    cases h with
    | cons a t => cases a; rw [RpAll.ints t]; rfl
theorem RpAll.of_ints : ∀ (ns : List Int), RpAll H (ns.map V.int) (ns.map PyData.int)
  | [] => .nil
  | n :: ns => .cons (.int n) (RpAll.of_ints ns)
theorem RpAll.bools : ∀ {vs : List V} {ns : List Bool}, RpAll H vs (ns.map PyData.bool) → vs = ns.map V.bl
  | _, [], h => by cases h; rfl
  | _, n :: ns, h => by
    cases h with
    | cons a t => cases a; rw [RpAll.bools t]; rfl
theorem RpAll.strs' : ∀ {vs : List V} {ns : List Str}, RpAll H vs (ns.map PyData.str) → vs = ns.map V.str
  | _, [], h => by cases h; rfl
  | _, n :: ns, h => by
    cases h with
    | cons a t => cases a; rw [RpAll.strs' t]; rfl
theorem RpAll.of_strs : ∀ (ns : List Str), RpAll H (ns.map V.str) (ns.map PyData.str)
  | [] => .nil
  | n :: ns => .cons (.str n) (RpAll.of_strs ns)
theorem dpa_one {v : V} {d : PyData} (h : Rp H v d) : RpAll H [v] [d] := .cons h .nil
theorem dpa_two {v w : V} {d e : PyData} (h : Rp H v d) (k : Rp H w e) : RpAll H [v, w] [d, e] := .cons h (.cons k .nil)
/-- what a value is worth -/
def Ok (H0 B H : Hp) (v : V) : Sl → Prop
  | .u => True
  | .d x => Rp B v x
  | .m xs => ∃ l vs, v = .ref l ∧ H0 l = none ∧ B l = none ∧ H l = some (.lst vs) ∧ RpAll B vs xs
  | .v x => v = x
theorem Ok.mono {v : V} {s : Sl} (g : Grow B H B' H') (h : Ok H0 B H v s) : Ok H0 B' H' v s := by
  cases s with
  | u => trivial
  | d x => exact dp_mono g.bb h
  | m xs =>
    obtain ⟨l, vs, e, h0, hb, hl, a⟩ := h
    exact ⟨l, vs, e, h0, g.nw l _ hl hb, g.hh l _ hl, dpa_mono g.bb a⟩
  | v x => exact h
def Sl.data : Sl → Option PyData
  | .d x => some x
  | .m xs => some (.list xs)
  | _ => none
/-- read now, as data -/
theorem Ok.now {v : V} {s : Sl} {x : PyData} (e : Ex B H) (h : Ok H0 B H v s) (hd : s.data = some x) : Rp H v x := by
  cases s with
  | u => cases hd
  | d y => cases hd; exact dp_mono e h
  | m xs =>
    cases hd
    obtain ⟨l, vs, rfl, _, _, hl, a⟩ := h
    exact .lst hl (dpa_mono e a)
  | v y => cases hd
/-- a list, whosever it is: its items are data -/
theorem Ok.lst {v : V} {s : Sl} {xs : List PyData} (e : Ex B H) (h : Ok H0 B H v s) (hd : s.data = some (.list xs)) : ∃ l vs, v = .ref l ∧ H l = some (.lst vs) ∧ RpAll B vs xs := by
  cases s with
  | u => cases hd
  | d y =>
    cases hd
    cases h with
    | lst sq a => exact ⟨_, _, rfl, e _ _ sq, a⟩
  | m ys =>
    cases hd
    obtain ⟨l, vs, rfl, _, _, hl, a⟩ := h
    exact ⟨l, vs, rfl, hl, a⟩
  | v y => cases hd
theorem dp_tup {v : V} {xs : List PyData} (h : Rp B v (.tuple xs)) : ∃ a vs, v = .ref a ∧ B a = some (.tup vs) ∧ RpAll B vs xs := by
  cases h with
  | tup s a => exact ⟨_, _, rfl, s, a⟩
theorem dp_lst {v : V} {xs : List PyData} (h : Rp B v (.list xs)) : ∃ a vs, v = .ref a ∧ B a = some (.lst vs) ∧ RpAll B vs xs := by
  cases h with
  | lst s a => exact ⟨_, _, rfl, s, a⟩
theorem dp_int {v : V} {i : Int} (h : Rp B v (.int i)) : v = .int i := by cases h; rfl
theorem dp_str {v : V} {x : Str} (h : Rp B v (.str x)) : v = .str x := by cases h; rfl
theorem dp_bl {v : V} {b : Bool} (h : Rp B v (.bool b)) : v = .bl b := by cases h; rfl
theorem dp_non {v : V} (h : Rp B v .none) : v = .non := by cases h; rfl
end

/-! ### the slots -/
def isM : Sl → Bool
  | .m _ => true
  | _ => false
structure Env (H0 B H : Hp) (σ : St) (L : List Sl) : Prop where
  len : σ.length = L.length
  at_ : ∀ (i : Nat) (s : Sl), L[i]? = some s → s = .u ∨ ∃ v, σ[i]? = some (some v) ∧ Ok H0 B H v s
  sep : ∀ (i j : Nat) (s t : Sl) (l : Addr), i ≠ j → L[i]? = some s → isM s = true → L[j]? = some t → isM t = true → σ[i]? = some (some (.ref l)) → σ[j]? = some (some (.ref l)) → False
section
variable {B B' H H' H0 : Hp} {σ : St} {L : List Sl}
theorem Env.mono (g : Grow B H B' H') (E : Env H0 B H σ L) : Env H0 B' H' σ L :=
  ⟨E.len, fun i s e => (E.at_ i s e).elim .inl fun ⟨v, a, b⟩ => .inr ⟨v, a, b.mono g⟩, E.sep⟩
/-- a slot is set; what it holds is no list of the call's own -/
theorem Env.set {i : Nat} {v : V} {s : Sl} (E : Env H0 B H σ L) (h : Ok H0 B H v s) (hs : isM s = false) : Env H0 B H (σ.set i (some v)) (L.set i s) := by
  refine ⟨by rw [List.length_set, List.length_set, E.len], fun j t e => ?_, fun j k t u l hjk e1 m1 e2 m2 a1 a2 => ?_⟩
  · by_cases hij : i = j
    · subst hij
      have hl : i < L.length := by
        have := (List.getElem?_eq_some_iff.mp e).1
        rwa [List.length_set] at this
      rw [List.getElem?_set_self hl] at e
      cases e
      exact .inr ⟨v, List.getElem?_set_self (by rw [E.len]; exact hl), h⟩
    · rw [List.getElem?_set_ne hij] at e
      rw [List.getElem?_set_ne hij]
      exact E.at_ j t e
  · have ne : ∀ (q : Nat) (r : Sl), (L.set i s)[q]? = some r → isM r = true → i ≠ q := fun q r e m z => by
      subst z
      have hl : i < L.length := by
        have := (List.getElem?_eq_some_iff.mp e).1
        rwa [List.length_set] at this
      rw [List.getElem?_set_self hl] at e
      cases e
      rw [hs] at m; cases m
    have n1 := ne j t e1 m1
    have n2 := ne k u e2 m2
    rw [List.getElem?_set_ne n1] at e1 a1
    rw [List.getElem?_set_ne n2] at e2 a2
    exact E.sep j k t u l hjk e1 m1 e2 m2 a1 a2
/-- a slot is set to a list that no slot holds -/
theorem Env.setM {i : Nat} {l : Addr} {vs : List V} {xs : List PyData} (E : Env H0 B H σ L) (h0 : H0 l = none) (hb : B l = none) (hl : H l = some (.lst vs)) (a : RpAll B vs xs)
    (hn : ∀ (j : Nat) (t : Sl), j ≠ i → L[j]? = some t → isM t = true → σ[j]? ≠ some (some (.ref l))) : Env H0 B H (σ.set i (some (.ref l))) (L.set i (.m xs)) := by
  refine ⟨by rw [List.length_set, List.length_set, E.len], fun j t e => ?_, fun j k t u b hjk e1 m1 e2 m2 a1 a2 => ?_⟩
  · by_cases hij : i = j
    · subst hij
      have hl' : i < L.length := by
        have := (List.getElem?_eq_some_iff.mp e).1
        rwa [List.length_set] at this
      rw [List.getElem?_set_self hl'] at e
      cases e
      exact .inr ⟨.ref l, List.getElem?_set_self (by rw [E.len]; exact hl'), ⟨l, vs, rfl, h0, hb, hl, a⟩⟩
    · rw [List.getElem?_set_ne hij] at e
      rw [List.getElem?_set_ne hij]
      exact E.at_ j t e
  · have at_i : ∀ (b : Addr), (σ.set i (some (.ref l)))[i]? = some (some (.ref b)) → b = l := fun b e => by
      have hlt : i < σ.length := by
        have := (List.getElem?_eq_some_iff.mp e).1
        rwa [List.length_set] at this
      rw [List.getElem?_set_self hlt] at e
      cases e; rfl
    by_cases z1 : i = j
    · subst z1
      have eb := at_i b a1
      subst eb
      rw [List.getElem?_set_ne hjk] at e2 a2
      exact hn k u (Ne.symm hjk) e2 m2 a2
    · by_cases z2 : i = k
      · subst z2
        have eb := at_i b a2
        subst eb
        rw [List.getElem?_set_ne z1] at e1 a1
        exact hn j t (Ne.symm z1) e1 m1 a1
      · rw [List.getElem?_set_ne z1] at e1 a1
        rw [List.getElem?_set_ne z2] at e2 a2
        exact E.sep j k t u b hjk e1 m1 e2 m2 a1 a2
theorem Env.mget {i : Nat} {xs : List PyData} (E : Env H0 B H σ L) (h : L[i]? = some (.m xs)) : ∃ l vs, σ[i]? = some (some (.ref l)) ∧ H0 l = none ∧ B l = none ∧ H l = some (.lst vs) ∧ RpAll B vs xs := by
  rcases E.at_ i _ h with e | ⟨v, e, l, vs, rfl, q⟩
  · cases e
  · exact ⟨l, vs, e, q⟩
/-- the list in slot i is changed -/
theorem Env.mut {i : Nat} {l : Addr} {ws : List V} {xs ys : List PyData} (E : Env H0 B H σ L) (h : L[i]? = some (.m xs)) (e : σ[i]? = some (some (.ref l))) (h0 : H0 l = none) (hb : B l = none) (a : RpAll B ws ys) :
    Env H0 B (upd H l (.lst ws)) σ (L.set i (.m ys)) := by
  refine ⟨by rw [List.length_set, E.len], fun j t q => ?_, fun j k t u b hjk e1 m1 e2 m2 a1 a2 => ?_⟩
  · by_cases hij : i = j
    · subst hij
      have hl : i < L.length := (List.getElem?_eq_some_iff.mp h).1
      rw [List.getElem?_set_self hl] at q
      cases q
      exact .inr ⟨.ref l, e, l, ws, rfl, h0, hb, upd_same, a⟩
    · rw [List.getElem?_set_ne hij] at q
      rcases E.at_ j t q with z | ⟨v, e2, o⟩
      · exact .inl z
      · refine .inr ⟨v, e2, ?_⟩
        cases t with
        | u => trivial
        | d x => exact o
        | v x => exact o
        | m zs =>
          obtain ⟨l2, vs2, rfl, q0, q1, q2, q3⟩ := o
          have hne : l2 ≠ l := fun z => by
            subst z
            exact E.sep i j _ _ l2 hij h rfl q rfl e e2
          exact ⟨l2, vs2, rfl, q0, q1, by rw [upd_ne hne]; exact q2, q3⟩
  · have old : ∀ (q : Nat) (r : Sl), (L.set i (.m ys))[q]? = some r → isM r = true → ∃ r', L[q]? = some r' ∧ isM r' = true := fun q r e m => by
      by_cases z : i = q
      · subst z; exact ⟨_, h, rfl⟩
      · rw [List.getElem?_set_ne z] at e; exact ⟨r, e, m⟩
    obtain ⟨t', e1', m1'⟩ := old j t e1 m1
    obtain ⟨u', e2', m2'⟩ := old k u e2 m2
    exact E.sep j k t' u' b hjk e1' m1' e2' m2' a1 a2
/-- less is known -/
theorem Env.drop {i : Nat} (E : Env H0 B H σ L) : Env H0 B H σ (L.set i .u) := by
  refine ⟨by rw [List.length_set, E.len], fun j t q => ?_, fun j k t u b hjk e1 m1 e2 m2 a1 a2 => ?_⟩
  · by_cases hij : i = j
    · subst hij
      have hl : i < L.length := by
        have := (List.getElem?_eq_some_iff.mp q).1
        rwa [List.length_set] at this
      rw [List.getElem?_set_self hl] at q
      cases q; exact .inl rfl
    · rw [List.getElem?_set_ne hij] at q; exact E.at_ j t q
  · have old : ∀ (q : Nat) (r : Sl), (L.set i .u)[q]? = some r → isM r = true → L[q]? = some r := fun q r e m => by
      by_cases z : i = q
      · subst z
        have hl : i < L.length := by
          have := (List.getElem?_eq_some_iff.mp e).1
          rwa [List.length_set] at this
        rw [List.getElem?_set_self hl] at e; cases e; cases m
      · rwa [List.getElem?_set_ne z] at e
    exact E.sep j k t u b hjk (old j t e1 m1) m1 (old k u e2 m2) m2 a1 a2
end
/-- several slots -/
def setAll (σ : St) : List Nat → List V → St
  | j :: js, w :: ws => setAll (σ.set j (some w)) js ws
  | _, _ => σ
def setAllD (L : List Sl) : List Nat → List PyData → List Sl
  | j :: js, w :: ws => setAllD (L.set j (.d w)) js ws
  | _, _ => L
theorem setAll_append (σ : St) : ∀ (js ks : List Nat) (vs ws : List V), js.length = vs.length → setAll σ (js ++ ks) (vs ++ ws) = setAll (setAll σ js vs) ks ws := by
  intro js
  induction js generalizing σ with
  | nil => intro ks vs ws h; cases vs with
    | nil => rfl
    | cons => cases h
  | cons j js ih => intro ks vs ws h; cases vs with
    | nil => cases h
    | cons v vs => exact ih (σ.set j (some v)) ks vs ws (by simpa using h)
theorem Env.setAll {H0 B H : Hp} : ∀ {js : List Nat} {σ : St} {L : List Sl} {ws : List V} {es : List PyData}, Env H0 B H σ L → RpAll B ws es → Env H0 B H (K45.setAll σ js ws) (setAllD L js es) := by
  intro js
  induction js with
  | nil => intro σ L ws es E a; cases a <;> exact E
  | cons j js ih =>
    intro σ L ws es E a
    cases a with
    | nil => exact E
    | cons h t => exact ih (E.set (i := j) (s := .d _) h rfl) t
def wipeD (L : List Sl) : List Nat → List Sl
  | [] => L
  | v :: vs => (wipeD L vs).set v .u
theorem Env.wipe {H0 B H : Hp} {σ : St} {L : List Sl} (E : Env H0 B H σ L) : ∀ vs : List Nat, Env H0 B H (L2.wipe σ vs) (wipeD L vs)
  | [] => E
  | v :: vs => by
    have I := Env.wipe E vs
    show Env H0 B H ((L2.wipe σ vs).set v none) ((wipeD L vs).set v .u)
    refine ⟨by rw [List.length_set, List.length_set, I.len], fun j t q => ?_, fun j k t u b hjk e1 m1 e2 m2 a1 a2 => ?_⟩
    · by_cases hij : v = j
      · subst hij
        have hl : v < (wipeD L vs).length := by
          have := (List.getElem?_eq_some_iff.mp q).1
          rwa [List.length_set] at this
        rw [List.getElem?_set_self hl] at q
        cases q; exact .inl rfl
      · rw [List.getElem?_set_ne hij] at q
        rw [List.getElem?_set_ne hij]
        exact I.at_ j t q
    · have old : ∀ (q : Nat) (r : Sl) (b : Addr), ((wipeD L vs).set v .u)[q]? = some r → isM r = true → ((L2.wipe σ vs).set v none)[q]? = some (some (.ref b)) → (wipeD L vs)[q]? = some r ∧ (L2.wipe σ vs)[q]? = some (some (.ref b)) := fun q r b e m a => by
        by_cases z : v = q
        · subst z
          have hl : v < (wipeD L vs).length := by
            have := (List.getElem?_eq_some_iff.mp e).1
            rwa [List.length_set] at this
          rw [List.getElem?_set_self hl] at e; cases e; cases m
        · rw [List.getElem?_set_ne z] at e a
          exact ⟨e, a⟩
      obtain ⟨e1', a1'⟩ := old j t b e1 m1 a1
      obtain ⟨e2', a2'⟩ := old k u b e2 m2 a2
      exact I.sep j k t u b hjk e1' m1 e2' m2 a1' a2'
theorem wipe_set_comm {σ : St} {j : Nat} {o : Option V} : ∀ {vs : List Nat}, j ∈ vs → L2.wipe (σ.set j o) vs = L2.wipe σ vs
  | v :: vs, h => by
    show (L2.wipe (σ.set j o) vs).set v none = (L2.wipe σ vs).set v none
    by_cases hv : j ∈ vs
    · rw [wipe_set_comm hv]
    · have e : v = j := by
        rcases List.mem_cons.mp h with q | q
        · exact q.symm
        · exact absurd q hv
      subst e
      clear h
      have aux : ∀ (us : List Nat), v ∉ us → L2.wipe (σ.set v o) us = (L2.wipe σ us).set v o := by
        intro us
        induction us with
        | nil => intro _; rfl
        | cons w us ih =>
          intro hm
          show (L2.wipe (σ.set v o) us).set w none = ((L2.wipe σ us).set w none).set v o
          rw [ih (fun q => hm (List.mem_cons_of_mem _ q)), List.set_comm _ _ (fun q => hm (by rw [q]; exact List.mem_cons_self))]
      rw [aux vs hv, List.set_set]
theorem wipe_wipe {σ : St} (vs : List Nat) : ∀ us : List Nat, (∀ u ∈ us, u ∈ vs) → L2.wipe (L2.wipe σ us) vs = L2.wipe σ vs
  | [], _ => rfl
  | u :: us, h => by
    show L2.wipe ((L2.wipe σ us).set u none) vs = _
    rw [wipe_set_comm (h u List.mem_cons_self)]
    exact wipe_wipe vs us fun w hw => h w (List.mem_cons_of_mem _ hw)
theorem wipe_setAll {vs : List Nat} : ∀ {σ : St} {js : List Nat} {ws : List V}, (∀ j ∈ js, j ∈ vs) → L2.wipe (setAll σ js ws) vs = L2.wipe σ vs
  | _, [], ws, _ => by cases ws <;> rfl
  | _, _ :: _, [], _ => rfl
  | σ, j :: js, w :: ws, h => by
    show L2.wipe (setAll (σ.set j (some w)) js ws) vs = _
    rw [wipe_setAll fun k hk => h k (List.mem_cons_of_mem _ hk), wipe_set_comm (h j List.mem_cons_self)]
end K45
-- B2
set_option maxHeartbeats 2000000
namespace K45
open PySem PySem.Spec PyProof.Rows L2
open Evl (Ex ex_rd ex_l ex_t)

abbrev Fx := Hp → Hp → Prop
/-- an expression is worth s -/
def EvE (F : Fx) (te : TE) (L : List Sl) (s : Sl) : Prop :=
  ∀ (H0 B0 B H : Hp) (σ : St), F H0 B0 → Grow B0 H0 B H → Env H0 B H σ L → ∀ Q : VK, (∀ v B' H', Grow B H B' H' → Ok H0 B' H' v s → Q v H') → te σ H Q
/-- an expression makes a new list -/
def EvM (F : Fx) (te : TE) (L : List Sl) (xs : List PyData) : Prop :=
  ∀ (H0 B0 B H : Hp) (σ : St), F H0 B0 → Grow B0 H0 B H → Env H0 B H σ L → ∀ Q : VK, (∀ l vs B' H', Grow B H B' H' → H l = none → B' l = none → H' l = some (.lst vs) → RpAll B' vs xs → Q (.ref l) H') → te σ H Q
def EvT (F : Fx) (tt : TT) (L : List Sl) (b : Bool) : Prop :=
  ∀ (H0 B0 B H : Hp) (σ : St), F H0 B0 → Grow B0 H0 B H → Env H0 B H σ L → ∀ Q : Bool → Hp → Prop, (∀ B' H', Grow B H B' H' → Q b H') → tt σ H Q
def OkAll (H0 B H : Hp) : List V → List Sl → Prop := Paired fun v s => Ok H0 B H v s
def EvA (F : Fx) (ta : TA) (L : List Sl) (ss : List Sl) : Prop :=
  ∀ (H0 B0 B H : Hp) (σ : St), F H0 B0 → Grow B0 H0 B H → Env H0 B H σ L → ∀ Q : List V → Hp → Prop, (∀ vs B' H', Grow B H B' H' → OkAll H0 B' H' vs ss → Q vs H') → ta σ H Q
def EvO (F : Fx) (to : TO) (L : List Sl) (o : Option Int) : Prop :=
  ∀ (H0 B0 B H : Hp) (σ : St), F H0 B0 → Grow B0 H0 B H → Env H0 B H σ L → ∀ Q : Option Int → Hp → Prop, (∀ B' H', Grow B H B' H' → Q o H') → to σ H Q
section
variable {K : PySem.W.Frag} {F : Fx} {L : List Sl} {ta tb tc te : TE} {tt tu : TT} {s t u : Sl} {b c : Bool}
theorem OkAll.mono {H0 B H B' H' : Hp} (g : Grow B H B' H') : ∀ {vs : List V} {ss : List Sl}, OkAll H0 B H vs ss → OkAll H0 B' H' vs ss
  | _, _, .nil => .nil
  | _, _, .cons h t => .cons (h.mono g) (OkAll.mono g t)
theorem OkAll.rp {H0 B H : Hp} : ∀ {vs : List V} {ds : List PyData}, OkAll H0 B H vs (ds.map Sl.d) → RpAll B vs ds
  | _, [], h => by cases h; exact .nil
  | _, d :: ds, h => by
    cases h with
    | cons a t => exact .cons a (OkAll.rp t)
theorem OkAll.of_rp {H0 B H : Hp} : ∀ {vs : List V} {ds : List PyData}, RpAll B vs ds → OkAll H0 B H vs (ds.map Sl.d)
  | _, _, .nil => .nil
  | _, _, .cons h t => .cons h (OkAll.of_rp t)
theorem EvE.is (h : EvE F te L s) (e : s = t) : EvE F te L t := e ▸ h
theorem EvT.is (h : EvT F tt L b) (e : b = c) : EvT F tt L c := e ▸ h
theorem EvM.is {xs ys : List PyData} (h : EvM F te L xs) (e : xs = ys) : EvM F te L ys := e ▸ h
/-- .. and it is data from then on -/
theorem EvM.d {xs : List PyData} (h : EvM F te L xs) : EvE F te L (.d (.list xs)) := fun H0 B0 B H σ f g E Q q =>
  h H0 B0 B H σ f g E Q fun l vs B' H' g' hl bl el a => q _ _ H' (Grow.freeze g' hl el bl) (show Rp _ (.ref l) (.list xs) from .lst upd_same (dpa_mono (Ex.new bl) a))
theorem EvM.m {xs : List PyData} (h : EvM F te L xs) : EvE F te L (.m xs) := fun H0 B0 B H σ f g E Q q =>
  h H0 B0 B H σ f g E Q fun l vs B' H' g' hl bl el a => q _ B' H' g' ⟨l, vs, rfl, Evl.fresh_back g.hh hl, bl, el, a⟩

/-! ### names, constants -/
theorem e_var {i : Nat} (h : L[i]? = some s) (hu : s ≠ .u := by intro z; cases z) : EvE F (tVar i) L s := fun H0 B0 B H σ f g E Q q => by
  rcases E.at_ i s h with z | ⟨v, e, o⟩
  · exact absurd z hu
  · exact ⟨v, e, q v B H (.rfl' g.bh) o⟩
theorem e_int {i : Int} : EvE F (tC (.int i)) L (.d (.int i)) := fun H0 B0 B H σ f g E Q q => q _ B H (.rfl' g.bh) (.int i)
theorem e_str {x : Str} : EvE F (tC (.str x)) L (.d (.str x)) := fun H0 B0 B H σ f g E Q q => q _ B H (.rfl' g.bh) (.str x)
theorem e_bl {x : Bool} : EvE F (tC (.bl x)) L (.d (.bool x)) := fun H0 B0 B H σ f g E Q q => q _ B H (.rfl' g.bh) (.bl x)
theorem e_non : EvE F (tC .non) L (.d .none) := fun H0 B0 B H σ f g E Q q => q _ B H (.rfl' g.bh) .non
theorem e_val {v : V} : EvE F (tC v) L (.v v) := fun H0 B0 B H σ f g E Q q => q _ B H (.rfl' g.bh) rfl

/-! ### operators -/
theorem e_op {r : R2} (ha : EvE F ta L s) (hb : EvE F tb L t)
    (hr : ∀ (H0 B H : Hp) (v w : V) (Q : VK), Ex B H → Ok H0 B H v s → Ok H0 B H w t → (∀ z B' H', Grow B H B' H' → Ok H0 B' H' z u → Q z H') → r v w H Q) : EvE F (tOp r ta tb) L u := by
  intro H0 B0 B H σ f g E Q q
  refine ha H0 B0 B H σ f g E _ fun v B1 H1 g1 o1 => ?_
  refine hb H0 B0 B1 H1 σ f (g.trans g1) (E.mono g1) _ fun w B2 H2 g2 o2 => ?_
  exact hr H0 B2 H2 v w Q g2.bh (o1.mono g2) o2 fun z B3 H3 g3 o3 => q z B3 H3 ((g1.trans g2).trans g3) o3
theorem m_op {r : R2} {xs : List PyData} (ha : EvE F ta L s) (hb : EvE F tb L t)
    (hr : ∀ (H0 B H : Hp) (v w : V) (Q : VK), Ex B H → Ok H0 B H v s → Ok H0 B H w t → (∀ l vs, H l = none → RpAll B vs xs → Q (.ref l) (upd H l (.lst vs))) → r v w H Q) : EvM F (tOp r ta tb) L xs := by
  intro H0 B0 B H σ f g E Q q
  refine ha H0 B0 B H σ f g E _ fun v B1 H1 g1 o1 => ?_
  refine hb H0 B0 B1 H1 σ f (g.trans g1) (E.mono g1) _ fun w B2 H2 g2 o2 => ?_
  refine hr H0 B2 H2 v w Q g2.bh (o1.mono g2) o2 fun l vs hl a => ?_
  exact q l vs B2 _ ((g1.trans g2).trans (Grow.side g2.bh hl)) (Evl.fresh_back (g1.trans g2).hh hl) (Evl.fresh_back g2.bh hl) upd_same a
theorem e_i0 {g : Int → Int → PyData} {gv : Int → Int → V} {i j : Int} (hg : ∀ B, Rp B (gv i j) (g i j)) (ha : EvE F ta L (.d (.int i))) (hb : EvE F tb L (.d (.int j))) : EvE F (tOp (rI0 gv) ta tb) L (.d (g i j)) :=
  e_op ha hb fun H0 B H v w Q e o1 o2 q => ⟨i, j, dp_int o1, dp_int o2, q _ B H (.rfl' e) (hg B)⟩
theorem e_iC {C : Int → Int → Prop} {gv : Int → Int → V} {g : Int → Int → PyData} {i j : Int} (hg : ∀ B, Rp B (gv i j) (g i j)) (hC : C i j) (ha : EvE F ta L (.d (.int i))) (hb : EvE F tb L (.d (.int j))) : EvE F (tOp (rI C gv) ta tb) L (.d (g i j)) :=
  e_op ha hb fun H0 B H v w Q e o1 o2 q => ⟨i, j, dp_int o1, dp_int o2, hC, q _ B H (.rfl' e) (hg B)⟩

def rAddU (K : PySem.W.Frag) : R2 := fun x y H Q => rI0 (fun i j => .int (i + j)) x y H Q ∨ (∃ i j, x = .str i ∧ y = .str j ∧ i.length + j.length ≤ sizeLine ∧ Q (.str (i ++ j)) H) ∨ rCatA K x y H Q ∨ rCat x y H Q
theorem op_addU {X : Cx} : OpR X (binaryOp .Add) (rAddU X.K) := OpR.or op_add (OpR.or op_add_str (OpR.or op_catA op_cat))
theorem e_add {i j : Int} (ha : EvE F ta L (.d (.int i))) (hb : EvE F tb L (.d (.int j))) : EvE F (tOp (rAddU K) ta tb) L (.d (.int (i + j))) :=
  e_op ha hb fun H0 B H v w Q e o1 o2 q => .inl ⟨i, j, dp_int o1, dp_int o2, q _ B H (.rfl' e) (.int _)⟩
theorem e_adds {x y : Str} (ha : EvE F ta L (.d (.str x))) (hb : EvE F tb L (.d (.str y))) (hz : x.length + y.length ≤ sizeLine) : EvE F (tOp (rAddU K) ta tb) L (.d (.str (x ++ y))) :=
  e_op ha hb fun H0 B H v w Q e o1 o2 q => .inr (.inl ⟨x, y, dp_str o1, dp_str o2, hz, q _ B H (.rfl' e) (.str _)⟩)
theorem e_addt {xs ys : List PyData} (ha : EvE F ta L (.d (.tuple xs))) (hb : EvE F tb L (.d (.tuple ys))) (hz : xs.length + ys.length ≤ sizeLine) : EvE F (tOp (rAddU K) ta tb) L (.d (.tuple (xs ++ ys))) :=
  e_op ha hb fun H0 B H v w Q e o1 o2 q => .inr (.inr (.inl (by
    obtain ⟨a, vs, rfl, ea, ra⟩ := dp_tup o1
    obtain ⟨c, ws, rfl, ec, rc⟩ := dp_tup o2
    have l1 := RpAll.len ra
    have l2 := RpAll.len rc
    refine ⟨a, c, vs, ws, rfl, rfl, SqT.of (e _ _ ea), SqT.of (e _ _ ec), by omega, fun z => ?_, fun _ z => ?_, fun _ _ p hp => ?_⟩
    · subst z
      cases ra
      exact q _ B H (.rfl' e) (.tup ec rc)
    · subst z
      cases rc
      rw [List.append_nil] at q
      exact q _ B H (.rfl' e) (.tup ea ra)
    · exact q _ _ _ (Grow.put e hp) (.tup upd_same (dpa_mono (Ex.new (Evl.fresh_back e hp)) (RpAll.append ra rc))))))
theorem m_add {xs ys : List PyData} (ha : EvE F ta L s) (hs : s.data = some (.list xs)) (hb : EvE F tb L t) (ht : t.data = some (.list ys)) (hz : xs.length + ys.length ≤ sizeLine) : EvM F (tOp (rAddU K) ta tb) L (xs ++ ys) :=
  m_op ha hb fun H0 B H v w Q e o1 o2 q => .inr (.inr (.inr (by
    obtain ⟨a, vs, rfl, ea, ra⟩ := o1.lst e hs
    obtain ⟨c, ws, rfl, ec, rc⟩ := o2.lst e ht
    have l1 := RpAll.len ra
    have l2 := RpAll.len rc
    exact ⟨a, c, vs, ws, rfl, rfl, ea, ec, by omega, fun p hp => q p _ hp (RpAll.append ra rc)⟩)))
theorem e_sub {i j : Int} (ha : EvE F ta L (.d (.int i))) (hb : EvE F tb L (.d (.int j))) : EvE F (tOp (rI0 fun i j => .int (i - j)) ta tb) L (.d (.int (i - j))) :=
  e_i0 (g := fun i j => .int (i - j)) (fun _ => .int _) ha hb
def rMulU (K : PySem.W.Frag) : R2 := fun x y H Q => rI CMul (fun i j => .int (i * j)) x y H Q ∨ rRepT K x y H Q ∨ rRep x y H Q
theorem op_mulU {X : Cx} : OpR X (binaryOp .Mult) (rMulU X.K) := OpR.or op_mul (OpR.or op_repT op_rep)
theorem e_mul {i j : Int} (ha : EvE F ta L (.d (.int i))) (hb : EvE F tb L (.d (.int j))) (hC : CMul i j) : EvE F (tOp (rMulU K) ta tb) L (.d (.int (i * j))) :=
  e_op ha hb fun H0 B H v w Q e o1 o2 q => .inl ⟨i, j, dp_int o1, dp_int o2, hC, q _ B H (.rfl' e) (.int _)⟩
theorem RpAll.rep {H : Hp} {vs : List V} {xs : List PyData} (h : RpAll H vs xs) : ∀ n : Nat, RpAll H (List.replicate n vs).flatten (List.replicate n xs).flatten
  | 0 => .nil
  | n + 1 => by
    rw [List.replicate_succ, List.replicate_succ, List.flatten_cons, List.flatten_cons]
    exact RpAll.append h (RpAll.rep h n)
theorem e_mult {xs : List PyData} {k : Int} (ha : EvE F ta L (.d (.tuple xs))) (hb : EvE F tb L (.d (.int k))) (h0 : xs ≠ []) (h1 : 2 ≤ k) (h2 : k ≤ 1000) (h3 : xs.length ≤ 1000) : EvE F (tOp (rMulU K) ta tb) L (.d (.tuple (List.replicate k.toNat xs).flatten)) :=
  e_op ha hb fun H0 B H v w Q e o1 o2 q => .inr (.inl (by
    obtain ⟨a, vs, rfl, ea, ra⟩ := dp_tup o1
    have l1 := RpAll.len ra
    refine ⟨a, k, vs, rfl, dp_int o2, SqT.of (e _ _ ea), fun z => ?_, h1, h2, by omega, fun p hp => ?_⟩
    · subst z; cases ra; exact h0 rfl
    · exact q _ _ _ (Grow.put e hp) (.tup upd_same (dpa_mono (Ex.new (Evl.fresh_back e hp)) (RpAll.rep ra _)))))
theorem m_mul {xs : List PyData} {k : Int} (ha : EvE F ta L s) (hs : s.data = some (.list xs)) (hb : EvE F tb L (.d (.int k))) (h1 : 0 ≤ k) (h2 : k ≤ 1000) (h3 : xs.length ≤ 1000) : EvM F (tOp (rMulU K) ta tb) L (List.replicate k.toNat xs).flatten :=
  m_op ha hb fun H0 B H v w Q e o1 o2 q => .inr (.inr (by
    obtain ⟨a, vs, rfl, ea, ra⟩ := o1.lst e hs
    have l1 := RpAll.len ra
    refine ⟨a, k, vs, rfl, dp_int o2, ea, by omega, by omega, ?_, fun p hp => q p _ hp (RpAll.rep ra _)⟩
    have h4 : vs.length * k.toNat ≤ 1000 * 1000 := Nat.mul_le_mul (by omega) (by omega)
    exact Nat.le_trans h4 (by decide)))
theorem e_mod {i j : Int} (ha : EvE F ta L (.d (.int i))) (hb : EvE F tb L (.d (.int j))) (hj : 0 < j) : EvE F (tOp (rI (fun _ j => 0 < j) fun i j => .int (i % j)) ta tb) L (.d (.int (i % j))) :=
  e_iC (C := fun _ j => 0 < j) (g := fun i j => .int (i % j)) (fun _ => .int _) hj ha hb
theorem e_pow {i j : Int} (ha : EvE F ta L (.d (.int i))) (hb : EvE F tb L (.d (.int j))) (hj : CPow i j) : EvE F (tOp (rI CPow fun i j => .int (i ^ j.toNat)) ta tb) L (.d (.int (i ^ j.toNat))) :=
  e_iC (C := CPow) (g := fun i j => .int (i ^ j.toNat)) (fun _ => .int _) hj ha hb

/-! ### comparisons -/
theorem e_cmp {p : Int → Int → Bool} {i j : Int} (ha : EvE F ta L (.d (.int i))) (hb : EvE F tb L (.d (.int j))) : EvE F (tOp (rI0 fun i j => .bl (p i j)) ta tb) L (.d (.bool (p i j))) :=
  e_i0 (gv := fun i j => .bl (p i j)) (g := fun i j => .bool (p i j)) (fun _ => .bl _) ha hb
def rEqU (K : PySem.W.Frag) : R2 := fun x y H Q => rEq x y H Q ∨ rEqD K x y H Q
def rNeU (K : PySem.W.Frag) : R2 := fun x y H Q => rNe x y H Q ∨ rNeD K x y H Q
theorem op_eqU {X : Cx} (hu : X.A.units + 64 < cLine) : OpR X (compareOp .Eq) (rEqU X.K) := OpR.or op_eq (op_eqD hu)
theorem op_neU {X : Cx} (hu : X.A.units + 64 < cLine) : OpR X (compareOp .NotEq) (rNeU X.K) := OpR.or op_ne (op_neD hu)
theorem e_eq {x y : PyData} (ha : EvE F ta L s) (hs : s.data = some x) (hb : EvE F tb L t) (ht : t.data = some y) (hx : SeqAt.shaped x = true) (hy : SeqAt.shaped y = true) : EvE F (tOp (rEqU K) ta tb) L (.d (.bool (PyData.eqv x y))) :=
  e_op ha hb fun H0 B H v w Q e o1 o2 q => .inr ⟨x, y, rp_dp (o1.now e hs) (SeqAt.canLay_of_shaped hx), rp_dp (o2.now e ht) (SeqAt.canLay_of_shaped hy), hx, hy, q _ B H (.rfl' e) (.bl _)⟩
theorem e_ne {x y : PyData} (ha : EvE F ta L s) (hs : s.data = some x) (hb : EvE F tb L t) (ht : t.data = some y) (hx : SeqAt.shaped x = true) (hy : SeqAt.shaped y = true) : EvE F (tOp (rNeU K) ta tb) L (.d (.bool (!PyData.eqv x y))) :=
  e_op ha hb fun H0 B H v w Q e o1 o2 q => .inr ⟨x, y, rp_dp (o1.now e hs) (SeqAt.canLay_of_shaped hx), rp_dp (o2.now e ht) (SeqAt.canLay_of_shaped hy), hx, hy, q _ B H (.rfl' e) (.bl _)⟩
theorem e_eqI {i j : Int} (ha : EvE F ta L (.d (.int i))) (hb : EvE F tb L (.d (.int j))) : EvE F (tOp (rEqU K) ta tb) L (.d (.bool (decide (i = j)))) :=
  e_op ha hb fun H0 B H v w Q e o1 o2 q => .inl (by
    obtain rfl := dp_int o1
    obtain rfl := dp_int o2
    refine ⟨rfl, ?_⟩
    rw [dec_int]
    exact q _ B H (.rfl' e) (.bl _))
theorem e_neI {i j : Int} (ha : EvE F ta L (.d (.int i))) (hb : EvE F tb L (.d (.int j))) : EvE F (tOp (rNeU K) ta tb) L (.d (.bool (!decide (i = j)))) :=
  e_op ha hb fun H0 B H v w Q e o1 o2 q => .inl (by
    obtain rfl := dp_int o1
    obtain rfl := dp_int o2
    refine ⟨rfl, ?_⟩
    rw [dec_int]
    exact q _ B H (.rfl' e) (.bl _))
theorem e_eqS {i j : Str} (ha : EvE F ta L (.d (.str i))) (hb : EvE F tb L (.d (.str j))) : EvE F (tOp (rEqU K) ta tb) L (.d (.bool (decide (i = j)))) :=
  e_op ha hb fun H0 B H v w Q e o1 o2 q => .inl (by
    obtain rfl := dp_str o1
    obtain rfl := dp_str o2
    refine ⟨rfl, ?_⟩
    rw [dec_str]
    exact q _ B H (.rfl' e) (.bl _))
theorem e_neS {i j : Str} (ha : EvE F ta L (.d (.str i))) (hb : EvE F tb L (.d (.str j))) : EvE F (tOp (rNeU K) ta tb) L (.d (.bool (!decide (i = j)))) :=
  e_op ha hb fun H0 B H v w Q e o1 o2 q => .inl (by
    obtain rfl := dp_str o1
    obtain rfl := dp_str o2
    refine ⟨rfl, ?_⟩
    rw [dec_str]
    exact q _ B H (.rfl' e) (.bl _))
def isNo : PyData → Bool
  | .none => true
  | _ => false
theorem isNo_v {H : Hp} {v : V} {x : PyData} (h : Rp H v x) : decide (v = .non) = isNo x := by cases h <;> rfl
theorem e_isN {x : PyData} (ha : EvE F ta L (.d x)) : EvE F (tIsN ta) L (.d (.bool (isNo x))) := fun H0 B0 B H σ f g E Q q =>
  ha H0 B0 B H σ f g E _ fun v B1 H1 g1 o1 => by
    have e := isNo_v (show Rp B1 v x from o1)
    show Q (.bl (decide (v = .non))) H1
    rw [e]
    exact q _ B1 H1 g1 (.bl _)
theorem e_notN {x : PyData} (ha : EvE F ta L (.d x)) : EvE F (tNotN ta) L (.d (.bool (!isNo x))) := fun H0 B0 B H σ f g E Q q =>
  ha H0 B0 B H σ f g E _ fun v B1 H1 g1 o1 => by
    have e := isNo_v (show Rp B1 v x from o1)
    show Q (.bl (!decide (v = .non))) H1
    rw [e]
    exact q _ B1 H1 g1 (.bl _)
def flatD : PyData → Bool
  | .none => true
  | .bool _ => true
  | .int _ => true
  | .str _ => true
  | _ => false
theorem flat_v {H : Hp} {v : V} {x : PyData} (h : Rp H v x) : flatV v = flatD x := by cases h <;> rfl
theorem eq_v {H : Hp} {v w : V} {x y : PyData} (h : Rp H v x) (k : Rp H w y) (hx : flatD x = true) (hy : flatD y = true) : eqV v w = PyData.eqv x y := by
  cases h <;> cases k <;> first | rfl | (cases hx) | (cases hy) | simp [eqV, PyData.eqv]
theorem all_flat {H : Hp} : ∀ {vs : List V} {xs : List PyData}, RpAll H vs xs → xs.all flatD = true → vs.all flatV = true
  | _, _, .nil, _ => rfl
  | _, _, .cons h t, e => by
    rw [List.all_cons, Bool.and_eq_true] at e ⊢
    exact ⟨(flat_v h).trans e.1, all_flat t e.2⟩
theorem in_v {H : Hp} {v : V} {x : PyData} (h : Rp H v x) (hx : flatD x = true) : ∀ {vs : List V} {xs : List PyData}, RpAll H vs xs → xs.all flatD = true → inV v vs = xs.any fun y => PyData.eqv y x
  | _, _, .nil, _ => rfl
  | _, _, .cons a t, e => by
    rw [List.all_cons, Bool.and_eq_true] at e
    show (eqV _ v || inV v _) = (PyData.eqv _ x || _)
    rw [eq_v a h e.1 hx, in_v h hx t e.2]
def rInU (K : PySem.W.Frag) : R2 := fun x y H Q => rIn K false x y H Q ∨ (∃ (c : Nat) (z : Str), x = .str ⟨#[c]⟩ ∧ y = .str z ∧ Q (.bl (decide (c ∈ z.cps.toList))) H)
def rNotInU (K : PySem.W.Frag) : R2 := fun x y H Q => rIn K true x y H Q ∨ (∃ (c : Nat) (z : Str), x = .str ⟨#[c]⟩ ∧ y = .str z ∧ Q (.bl (!decide (c ∈ z.cps.toList))) H)
theorem op_inU {X : Cx} : OpR X (compareOp .In) (rInU X.K) := OpR.or op_in_seq op_in_sign
theorem op_notInU {X : Cx} : OpR X (compareOp .NotIn) (rNotInU X.K) := OpR.or op_notIn_seq op_notIn_sign
theorem rIn_of {H0 B H : Hp} {v w : V} {x : PyData} {xs : List PyData} {neg : Bool} {Q : VK} (e : Ex B H) (o1 : Rp B v x) (o2 : Ok H0 B H w t) (ht : t.data = some (.list xs) ∨ t = .d (.tuple xs)) (hx : flatD x = true) (hxs : xs.all flatD = true)
    (q : Q (.bl (if neg then !(xs.any fun y => PyData.eqv y x) else xs.any fun y => PyData.eqv y x)) H) : rIn K neg v w H Q := by
  rcases ht with ht | rfl
  · obtain ⟨a, vs, rfl, ea, ra⟩ := o2.lst e ht
    refine ⟨a, vs, rfl, .inl (SqL.of ea), (flat_v o1).trans hx, all_flat ra hxs, ?_⟩
    rw [in_v o1 hx ra hxs]; exact q
  · obtain ⟨a, vs, rfl, ea, ra⟩ := dp_tup o2
    refine ⟨a, vs, rfl, .inr (SqT.of (e _ _ ea)), (flat_v o1).trans hx, all_flat ra hxs, ?_⟩
    rw [in_v o1 hx ra hxs]; exact q
theorem e_in {x : PyData} {xs : List PyData} (ha : EvE F ta L (.d x)) (hb : EvE F tb L t) (ht : t.data = some (.list xs) ∨ t = .d (.tuple xs)) (hx : flatD x = true) (hxs : xs.all flatD = true) : EvE F (tOp (rInU K) ta tb) L (.d (.bool (xs.any fun y => PyData.eqv y x))) :=
  e_op ha hb fun H0 B H v w Q e o1 o2 q => .inl (rIn_of e o1 o2 ht hx hxs (q _ B H (.rfl' e) (.bl _)))
theorem e_ins {c : Nat} {z : Str} (ha : EvE F ta L (.d (.str ⟨#[c]⟩))) (hb : EvE F tb L (.d (.str z))) : EvE F (tOp (rInU K) ta tb) L (.d (.bool (decide (c ∈ z.cps.toList)))) :=
  e_op ha hb fun H0 B H v w Q e o1 o2 q => .inr ⟨c, z, dp_str o1, dp_str o2, q _ B H (.rfl' e) (.bl _)⟩
theorem e_notIns {c : Nat} {z : Str} (ha : EvE F ta L (.d (.str ⟨#[c]⟩))) (hb : EvE F tb L (.d (.str z))) : EvE F (tOp (rNotInU K) ta tb) L (.d (.bool (!decide (c ∈ z.cps.toList)))) :=
  e_op ha hb fun H0 B H v w Q e o1 o2 q => .inr ⟨c, z, dp_str o1, dp_str o2, q _ B H (.rfl' e) (.bl _)⟩
/-- a op b op' c of ints -/
theorem e_chain {p p' : Int → Int → Bool} {i j k : Int} (ha : EvE F ta L (.d (.int i))) (hb : EvE F tb L (.d (.int j))) (hc : EvE F tc L (.d (.int k))) :
    EvE F (tChain (rI0 fun i j => .bl (p i j)) (rI0 fun i j => .bl (p' i j)) ta tb tc) L (.d (.bool (p i j && p' j k))) := by
  intro H0 B0 B H σ f g E Q q
  refine ha H0 B0 B H σ f g E _ fun v B1 H1 g1 o1 => ?_
  refine hb H0 B0 B1 H1 σ f (g.trans g1) (E.mono g1) _ fun w B2 H2 g2 o2 => ?_
  refine ⟨i, j, dp_int o1, dp_int o2, p i j, rfl, ?_⟩
  cases hp : p i j with
  | true =>
    rw [if_pos rfl]
    refine hc H0 B0 B2 H2 σ f ((g.trans g1).trans g2) ((E.mono g1).mono g2) _ fun z B3 H3 g3 o3 => ?_
    refine ⟨j, k, dp_int o2, dp_int o3, ?_⟩
    rw [hp] at q
    exact q _ B3 H3 ((g1.trans g2).trans g3) (.bl _)
  | false =>
    rw [if_neg Bool.false_ne_true]
    rw [hp] at q
    exact q _ B2 H2 (g1.trans g2) (.bl _)

/-! ### tests -/
theorem t_B (h : EvE F te L (.d (.bool b))) : EvT F (tB te) L b := fun H0 B0 B H σ f g E Q q =>
  h H0 B0 B H σ f g E _ fun v B1 H1 g1 o1 => ⟨b, dp_bl o1, q B1 H1 g1⟩
theorem t_test (h : EvE F te L (.d (.bool b))) : EvT F (tTest te) L b := fun H0 B0 B H σ f g E Q q =>
  h H0 B0 B H σ f g E _ fun v B1 H1 g1 o1 => ⟨b, dp_bl o1, q B1 H1 g1⟩
theorem t_not (h : EvT F tt L b) : EvT F (tNot tt) L (!b) := fun H0 B0 B H σ f g E Q q => h H0 B0 B H σ f g E _ fun B1 H1 g1 => q B1 H1 g1
theorem t_and (h : EvT F tt L b) (k : b = true → EvT F tu L c) : EvT F (tAnd tt tu) L (b && c) := fun H0 B0 B H σ f g E Q q =>
  h H0 B0 B H σ f g E _ fun B1 H1 g1 => by
    cases b with
    | true => exact k rfl H0 B0 B1 H1 σ f (g.trans g1) (E.mono g1) _ fun B2 H2 g2 => q B2 H2 (g1.trans g2)
    | false => exact q B1 H1 g1
theorem t_or (h : EvT F tt L b) (k : b = false → EvT F tu L c) : EvT F (tOr tt tu) L (b || c) := fun H0 B0 B H σ f g E Q q =>
  h H0 B0 B H σ f g E _ fun B1 H1 g1 => by
    cases b with
    | true => exact q B1 H1 g1
    | false => exact k rfl H0 B0 B1 H1 σ f (g.trans g1) (E.mono g1) _ fun B2 H2 g2 => q B2 H2 (g1.trans g2)
theorem e_andV (h : EvE F ta L (.d (.bool b))) (k : b = true → EvE F tb L (.d (.bool c))) : EvE F (tAndV ta tb) L (.d (.bool (b && c))) := fun H0 B0 B H σ f g E Q q =>
  h H0 B0 B H σ f g E _ fun v B1 H1 g1 o1 => ⟨b, dp_bl o1, by
    cases b with
    | true => exact k rfl H0 B0 B1 H1 σ f (g.trans g1) (E.mono g1) _ fun w B2 H2 g2 o2 => q w B2 H2 (g1.trans g2) o2
    | false => exact q _ B1 H1 g1 (.bl _)⟩
theorem e_orV (h : EvE F ta L (.d (.bool b))) (k : b = false → EvE F tb L (.d (.bool c))) : EvE F (tOrV ta tb) L (.d (.bool (b || c))) := fun H0 B0 B H σ f g E Q q =>
  h H0 B0 B H σ f g E _ fun v B1 H1 g1 o1 => ⟨b, dp_bl o1, by
    cases b with
    | true => exact q _ B1 H1 g1 (.bl _)
    | false => exact k rfl H0 B0 B1 H1 σ f (g.trans g1) (E.mono g1) _ fun w B2 H2 g2 o2 => q w B2 H2 (g1.trans g2) o2⟩
theorem e_notV (h : EvE F ta L (.d (.bool b))) : EvE F (tNotV ta) L (.d (.bool (!b))) := fun H0 B0 B H σ f g E Q q =>
  h H0 B0 B H σ f g E _ fun v B1 H1 g1 o1 => ⟨b, dp_bl o1, q _ B1 H1 g1 (.bl _)⟩
theorem e_if (h : EvT F tt L b) (h1 : b = true → EvE F ta L s) (h2 : b = false → EvE F tb L s) : EvE F (tIf tt ta tb) L s := fun H0 B0 B H σ f g E Q q =>
  h H0 B0 B H σ f g E _ fun B1 H1 g1 => by
    cases b with
    | true => exact h1 rfl H0 B0 B1 H1 σ f (g.trans g1) (E.mono g1) _ fun w B2 H2 g2 o2 => q w B2 H2 (g1.trans g2) o2
    | false => exact h2 rfl H0 B0 B1 H1 σ f (g.trans g1) (E.mono g1) _ fun w B2 H2 g2 o2 => q w B2 H2 (g1.trans g2) o2

/-! ### items, slices -/
theorem atI_rp {H : Hp} {vs : List V} {xs : List PyData} {i : Int} {d : PyData} (a : RpAll H vs xs) (h : atI xs i = some d) : ∃ v, atI vs i = some v ∧ Rp H v d := by
  unfold atI at h ⊢
  rw [RpAll.len a]
  cases e : ixN xs.length i with
  | none => rw [e] at h; cases h
  | some j =>
    rw [e] at h
    exact RpAll.get a h
theorem e_ix {xs : List PyData} {i : Int} {d : PyData} (ha : EvE F ta L s) (hs : s.data = some (.list xs) ∨ s = .d (.tuple xs)) (hb : EvE F tb L (.d (.int i))) (hi : atI xs i = some d) : EvE F (tOp (rIx K) ta tb) L (.d d) :=
  e_op ha hb fun H0 B H v w Q e o1 o2 q => by
    rcases hs with hs | rfl
    · obtain ⟨a, vs, rfl, ea, ra⟩ := o1.lst e hs
      obtain ⟨z, hz, rz⟩ := atI_rp ra hi
      exact .inl ⟨a, vs, i, z, rfl, dp_int o2, SqL.of ea, hz, q _ B H (.rfl' e) rz⟩
    · obtain ⟨a, vs, rfl, ea, ra⟩ := dp_tup o1
      obtain ⟨z, hz, rz⟩ := atI_rp ra hi
      exact .inr (.inl ⟨a, vs, i, z, rfl, dp_int o2, SqT.of (e _ _ ea), hz, q _ B H (.rfl' e) rz⟩)
theorem e_ixs {x : Str} {i : Int} {c : Nat} (ha : EvE F ta L (.d (.str x))) (hb : EvE F tb L (.d (.int i))) (hz : x.length ≤ sizeLine) (hi : atI x.cps.toList i = some c) : EvE F (tOp (rIx K) ta tb) L (.d (.str ⟨#[c]⟩)) :=
  e_op ha hb fun H0 B H v w Q e o1 o2 q => .inr (.inr ⟨x, i, c, dp_str o1, dp_int o2, hz, hi, q _ B H (.rfl' e) (.str _)⟩)
theorem o_none : EvO F tNoPart L none := fun H0 B0 B H σ f g E Q q => q B H (.rfl' g.bh)
theorem o_some {i : Int} (h : EvE F te L (.d (.int i))) : EvO F (tPart te) L (some i) := fun H0 B0 B H σ f g E Q q =>
  h H0 B0 B H σ f g E _ fun v B1 H1 g1 o1 => ⟨i, dp_int o1, q B1 H1 g1⟩
def cutD (xs : List PyData) (lo hi : Option Int) : List PyData := (xs.drop (HT.sIx xs.length 0 lo)).take (HT.sIx xs.length xs.length hi - HT.sIx xs.length 0 lo)
theorem cut_rp {H : Hp} {vs : List V} {xs : List PyData} {lo hi : Option Int} (a : RpAll H vs xs) : RpAll H (cutV vs lo hi) (cutD xs lo hi) := by
  unfold cutV cutD
  rw [RpAll.len a]
  exact RpAll.take _ (RpAll.drop _ a)
def rSlU (K : PySem.W.Frag) : V → Option Int → Option Int → Hp → VK → Prop := fun x lo hi H Q => C8.rSlX x lo hi H Q ∨ rSlL K x lo hi H Q ∨ rSlA K x lo hi H Q
theorem sl_U {X : Cx} : SlR X (rSlU X.K) := SlR.or C8.sl_txt (SlR.or sl_list sl_tupA)
theorem e_slt {x : Str} {tl th : TO} {lo hi : Option Int} (ha : EvE F ta L (.d (.str x))) (hl : EvO F tl L lo) (hh : EvO F th L hi) (hz : x.length ≤ sizeLine) : EvE F (tSl (rSlU K) ta tl th) L (.d (.str (Txt.slice x lo hi))) := by
  intro H0 B0 B H σ f g E Q q
  refine ha H0 B0 B H σ f g E _ fun v B1 H1 g1 o1 => ?_
  refine hl H0 B0 B1 H1 σ f (g.trans g1) (E.mono g1) _ fun B2 H2 g2 => ?_
  refine hh H0 B0 B2 H2 σ f ((g.trans g1).trans g2) ((E.mono g1).mono g2) _ fun B3 H3 g3 => ?_
  exact .inl ⟨x, dp_str o1, hz, q _ B3 H3 ((g1.trans g2).trans g3) (.str _)⟩
theorem m_slt {xs : List PyData} {tl th : TO} {lo hi : Option Int} (ha : EvE F ta L s) (hs : s.data = some (.list xs)) (hl : EvO F tl L lo) (hh : EvO F th L hi) : EvM F (tSl (rSlU K) ta tl th) L (cutD xs lo hi) := by
  intro H0 B0 B H σ f g E Q q
  refine ha H0 B0 B H σ f g E _ fun v B1 H1 g1 o1 => ?_
  refine hl H0 B0 B1 H1 σ f (g.trans g1) (E.mono g1) _ fun B2 H2 g2 => ?_
  refine hh H0 B0 B2 H2 σ f ((g.trans g1).trans g2) ((E.mono g1).mono g2) _ fun B3 H3 g3 => ?_
  obtain ⟨a, vs, rfl, ea, ra⟩ := ((o1.mono g2).mono g3).lst g3.bh hs
  refine .inr (.inl ⟨a, vs, rfl, SqL.of ea, fun p hp => ?_⟩)
  have gg := (g1.trans g2).trans g3
  exact q p _ B3 _ (gg.trans (Grow.side gg.bh hp)) (Evl.fresh_back gg.hh hp) (Evl.fresh_back gg.bh hp) upd_same (cut_rp ra)
theorem cutD_all {xs : List PyData} {lo hi : Option Int} (h1 : HT.sIx xs.length 0 lo = 0) (h2 : HT.sIx xs.length xs.length hi = xs.length) : cutD xs lo hi = xs := by
  unfold cutD
  rw [h1, h2, List.drop_zero, Nat.sub_zero, List.take_length]
theorem e_slu {xs : List PyData} {tl th : TO} {lo hi : Option Int} (ha : EvE F ta L (.d (.tuple xs))) (hl : EvO F tl L lo) (hh : EvO F th L hi) : EvE F (tSl (rSlU K) ta tl th) L (.d (.tuple (cutD xs lo hi))) := by
  intro H0 B0 B H σ f g E Q q
  refine ha H0 B0 B H σ f g E _ fun v B1 H1 g1 o1 => ?_
  refine hl H0 B0 B1 H1 σ f (g.trans g1) (E.mono g1) _ fun B2 H2 g2 => ?_
  refine hh H0 B0 B2 H2 σ f ((g.trans g1).trans g2) ((E.mono g1).mono g2) _ fun B3 H3 g3 => ?_
  obtain ⟨a, vs, rfl, ea, ra⟩ := dp_tup (show Rp B3 v (.tuple xs) from (o1.mono g2).mono g3)
  have gg := (g1.trans g2).trans g3
  have ln := RpAll.len ra
  refine .inr (.inr ⟨a, vs, rfl, SqT.of (gg.bh _ _ ea), fun z => ?_, fun _ p hp => ?_⟩)
  · rw [ln] at z
    rw [cutD_all z.1 z.2] at q
    exact q _ B3 H3 gg (.tup ea ra)
  · exact q _ _ _ (gg.trans (Grow.put gg.bh hp)) (.tup upd_same (dpa_mono (Ex.new (Evl.fresh_back gg.bh hp)) (cut_rp ra)))

/-! ### arguments, displays -/
theorem a_nil : EvA F tNil L [] := fun H0 B0 B H σ f g E Q q => q [] B H (.rfl' g.bh) .nil
theorem a_cons {tr : TA} {ss : List Sl} (h : EvE F te L s) (k : EvA F tr L ss) : EvA F (tCons te tr) L (s :: ss) := fun H0 B0 B H σ f g E Q q =>
  h H0 B0 B H σ f g E _ fun v B1 H1 g1 o1 => k H0 B0 B1 H1 σ f (g.trans g1) (E.mono g1) _ fun vs B2 H2 g2 o2 => q _ B2 H2 (g1.trans g2) (.cons (o1.mono g2) o2)
theorem OkAll.append {H0 B H : Hp} : ∀ {vs ws : List V} {ss ts : List Sl}, OkAll H0 B H vs ss → OkAll H0 B H ws ts → OkAll H0 B H (vs ++ ws) (ss ++ ts)
  | _, _, _, _, .nil, s => s
  | _, _, _, _, .cons h t, s => .cons h (OkAll.append t s)
theorem a_star {tr : TA} {ss : List Sl} {xs : List PyData} (h : EvE F te L s) (hs : s.data = some (.list xs) ∨ s = .d (.tuple xs)) (k : EvA F tr L ss) : EvA F (StX.tStar K te tr) L (xs.map Sl.d ++ ss) := fun H0 B0 B H σ f g E Q q =>
  h H0 B0 B H σ f g E _ fun v B1 H1 g1 o1 => by
    rcases hs with hs | rfl
    · obtain ⟨a, vs, rfl, ea, ra⟩ := o1.lst g1.bh hs
      exact ⟨a, vs, rfl, .inr (SqL.of ea), k H0 B0 B1 H1 σ f (g.trans g1) (E.mono g1) _ fun ws B2 H2 g2 o2 => q _ B2 H2 (g1.trans g2) (OkAll.append (OkAll.of_rp (dpa_mono g2.bb ra)) o2)⟩
    · obtain ⟨a, vs, rfl, ea, ra⟩ := dp_tup o1
      exact ⟨a, vs, rfl, .inl (SqT.of (g1.bh _ _ ea)), k H0 B0 B1 H1 σ f (g.trans g1) (E.mono g1) _ fun ws B2 H2 g2 o2 => q _ B2 H2 (g1.trans g2) (OkAll.append (OkAll.of_rp (dpa_mono g2.bb ra)) o2)⟩
theorem EvA.is {tr : TA} {ss ts : List Sl} (h : EvA F tr L ss) (e : ss = ts) : EvA F tr L ts := e ▸ h
theorem e_tup {tr : TA} {ds : List PyData} (h : EvA F tr L (ds.map Sl.d)) (hz : ds.length ≤ 1000) : EvE F (tTup tr) L (.d (.tuple ds)) := fun H0 B0 B H σ f g E Q q =>
  h H0 B0 B H σ f g E _ fun vs B1 H1 g1 o1 => by
    have ra := OkAll.rp o1
    have ln := RpAll.len ra
    refine ⟨Nat.le_trans (by omega) (show 1000 ≤ sizeLine by decide), fun p hp => ?_⟩
    exact q _ _ _ (g1.trans (Grow.put g1.bh hp)) (.tup upd_same (dpa_mono (Ex.new (Evl.fresh_back g1.bh hp)) ra))
theorem m_lst {tr : TA} {ds : List PyData} (h : EvA F tr L (ds.map Sl.d)) (hz : ds.length ≤ 1000) : EvM F (tLst tr) L ds := fun H0 B0 B H σ f g E Q q =>
  h H0 B0 B H σ f g E _ fun vs B1 H1 g1 o1 => by
    have ra := OkAll.rp o1
    have ln := RpAll.len ra
    refine ⟨Nat.le_trans (by omega) (show 1000 ≤ sizeLine by decide), fun p hp => ?_⟩
    exact q p vs B1 _ (g1.trans (Grow.side g1.bh hp)) (Evl.fresh_back g1.hh hp) (Evl.fresh_back g1.bh hp) upd_same ra
end
end K45
-- B3
set_option maxHeartbeats 2000000
namespace K45
open PySem PySem.Spec PyProof.Rows L2
open Evl (Ex ex_rd ex_l ex_t)
section
variable {K : PySem.W.Frag} {F : Fx} {L : List Sl} {ta tb tc te : TE} {tt tu : TT} {s t u : Sl} {b c : Bool} {tr : TA}

/-! ### a call by values -/
def rLenU (K : PySem.W.Frag) : List V → Hp → VK → Prop := fun xs H Q => (∃ p ys, xs = [.ref p] ∧ (SqL K H p ys ∨ SqT K H p ys) ∧ Q (.int ys.length) H) ∨ (∃ z, xs = [.str z] ∧ z.length ≤ sizeLine ∧ Q (.int z.length) H)
theorem call_lenU {X : Cx} : CallR X (.builtin "len") (rLenU X.K) := CallR.or call_len_seq call_len_str
theorem c_of {r : List V → Hp → VK → Prop} {ss : List Sl} (h : EvA F tr L ss) (hr : ∀ (H0 B H : Hp) (vs : List V) (Q : VK), Ex B H → OkAll H0 B H vs ss → (∀ z B' H', Grow B H B' H' → Ok H0 B' H' z u → Q z H') → r vs H Q) : EvE F (tCB r tr) L u :=
  fun H0 B0 B H σ f g E Q q => h H0 B0 B H σ f g E _ fun vs B1 H1 g1 o1 => hr H0 B1 H1 vs Q g1.bh o1 fun z B2 H2 g2 o2 => q z B2 H2 (g1.trans g2) o2
theorem m_of {r : List V → Hp → VK → Prop} {ss : List Sl} {xs : List PyData} (h : EvA F tr L ss) (hr : ∀ (H0 B H : Hp) (vs : List V) (Q : VK), Ex B H → OkAll H0 B H vs ss → (∀ l ws, H l = none → RpAll B ws xs → Q (.ref l) (upd H l (.lst ws))) → r vs H Q) : EvM F (tCB r tr) L xs :=
  fun H0 B0 B H σ f g E Q q => h H0 B0 B H σ f g E _ fun vs B1 H1 g1 o1 => hr H0 B1 H1 vs Q g1.bh o1 fun l ws hl a =>
    q l ws B1 _ (g1.trans (Grow.side g1.bh hl)) (Evl.fresh_back g1.hh hl) (Evl.fresh_back g1.bh hl) upd_same a
theorem ok1 {H0 B H : Hp} {vs : List V} (h : OkAll H0 B H vs [s]) : ∃ v, vs = [v] ∧ Ok H0 B H v s := by
  cases h with
  | cons a r => cases r; exact ⟨_, rfl, a⟩
theorem ok2 {H0 B H : Hp} {vs : List V} (h : OkAll H0 B H vs [s, t]) : ∃ v w, vs = [v, w] ∧ Ok H0 B H v s ∧ Ok H0 B H w t := by
  cases h with
  | cons a r =>
    cases r with
    | cons a2 r2 => cases r2; exact ⟨_, _, rfl, a, a2⟩
theorem c_len {xs : List PyData} (h : EvA F tr L [s]) (hs : s.data = some (.list xs) ∨ s = .d (.tuple xs)) : EvE F (tCB (rLenU K) tr) L (.d (.int xs.length)) :=
  c_of h fun H0 B H vs Q e oo q => by
    obtain ⟨v, rfl, o⟩ := ok1 oo
    rcases hs with hs | rfl
    · obtain ⟨a, ws, rfl, ea, ra⟩ := o.lst e hs
      rw [← RpAll.len ra] at q
      exact .inl ⟨a, ws, rfl, .inl (SqL.of ea), q _ B H (.rfl' e) (.int _)⟩
    · obtain ⟨a, ws, rfl, ea, ra⟩ := dp_tup o
      rw [← RpAll.len ra] at q
      exact .inl ⟨a, ws, rfl, .inr (SqT.of (e _ _ ea)), q _ B H (.rfl' e) (.int _)⟩
theorem c_lens {x : Str} (h : EvA F tr L [.d (.str x)]) (hz : x.length ≤ sizeLine) : EvE F (tCB (rLenU K) tr) L (.d (.int x.length)) :=
  c_of h fun H0 B H vs Q e oo q => by
    obtain ⟨v, rfl, o⟩ := ok1 oo
    exact .inr ⟨x, by rw [dp_str o], hz, q _ B H (.rfl' e) (.int _)⟩
def rTupOf (K : PySem.W.Frag) : List V → Hp → VK → Prop := fun xs H Q => ∃ p ys, xs = [.ref p] ∧ ((SqL K H p ys ∧ ∀ l, H l = none → Q (.ref l) (upd H l (.tup ys))) ∨ (SqT K H p ys ∧ Q (.ref p) H))
theorem call_tupU {X : Cx} : CallR X (.type "tuple") (rTupOf X.K) := call_tuple_of
theorem c_tup {xs : List PyData} (h : EvA F tr L [s]) (hs : s.data = some (.list xs) ∨ s = .d (.tuple xs)) : EvE F (tCB (rTupOf K) tr) L (.d (.tuple xs)) :=
  c_of h fun H0 B H vs Q e oo q => by
    obtain ⟨v, rfl, o⟩ := ok1 oo
    rcases hs with hs | rfl
    · obtain ⟨a, ws, rfl, ea, ra⟩ := o.lst e hs
      exact ⟨a, ws, rfl, .inl ⟨SqL.of ea, fun p hp => q _ _ _ (Grow.put e hp) (.tup upd_same (dpa_mono (Ex.new (Evl.fresh_back e hp)) ra))⟩⟩
    · obtain ⟨a, ws, rfl, ea, ra⟩ := dp_tup o
      exact ⟨a, ws, rfl, .inr ⟨SqT.of (e _ _ ea), q _ B H (.rfl' e) (.tup ea ra)⟩⟩
def rLstOf (K : PySem.W.Frag) : List V → Hp → VK → Prop := fun xs H Q => ∃ p ys, xs = [.ref p] ∧ (SqL K H p ys ∨ SqT K H p ys) ∧ ∀ l, H l = none → Q (.ref l) (upd H l (.lst ys))
theorem call_lstU {X : Cx} : CallR X (.type "list") (rLstOf X.K) := call_list_of
theorem m_lstof {xs : List PyData} (h : EvA F tr L [s]) (hs : s.data = some (.list xs) ∨ s = .d (.tuple xs)) : EvM F (tCB (rLstOf K) tr) L xs :=
  m_of h fun H0 B H vs Q e oo q => by
    obtain ⟨v, rfl, o⟩ := ok1 oo
    rcases hs with hs | rfl
    · obtain ⟨a, ws, rfl, ea, ra⟩ := o.lst e hs
      exact ⟨a, ws, rfl, .inl (SqL.of ea), fun p hp => q p ws hp ra⟩
    · obtain ⟨a, ws, rfl, ea, ra⟩ := dp_tup o
      exact ⟨a, ws, rfl, .inr (SqT.of (e _ _ ea)), fun p hp => q p ws hp ra⟩
def tyN : PyData → String
  | .none => "NoneType"
  | .bool _ => "bool"
  | .int _ => "int"
  | .str _ => "str"
  | .list _ => "list"
  | .tuple _ => "tuple"
  | .dict _ => "dict"
theorem ty_rp {H : Hp} {v : V} {x : PyData} (h : Rp H v x) : TyX K H v (.type (tyN x)) := by
  cases h with
  | non => exact .base .non
  | bl b => exact .base (.bl b)
  | int i => exact .base (.int i)
  | str x => exact .base (.str x)
  | lst e a => exact .base (.lst e)
  | tup e a => exact .base (.tup e)
  | dic e => exact .base (.dK e)
def rIsiU (K : PySem.W.Frag) : List V → Hp → VK → Prop := fun xs H Q => rIsi K xs H Q ∨ rIsiT K xs H Q
theorem call_isiU {X : Cx} : CallR X (.builtin "isinstance") (rIsiU X.K) := CallR.or call_isi call_isiT
theorem c_isi {x : PyData} {n : String} (h : EvA F tr L [s, .v (.ty n)]) (hs : s.data = some x) (hb : kitB (tyN x) n = some b) : EvE F (tCB (rIsiU K) tr) L (.d (.bool b)) :=
  c_of h fun H0 B H vs Q e oo q => by
    obtain ⟨v, w, rfl, o, o2⟩ := ok2 oo
    have o2 : w = .ty n := o2
    subst o2
    exact .inl ⟨v, .ty n, .type (tyN x), .type n, b, rfl, .ty n, ty_rp (o.now e hs), kit_ty hb, q _ B H (.rfl' e) (.bl _)⟩
theorem c_all {bs : List Bool} (h : EvA F tr L [s]) (hs : s.data = some (.list (bs.map PyData.bool))) : EvE F (tCB (rAll K) tr) L (.d (.bool (bs.all id))) :=
  c_of h fun H0 B H vs Q e oo q => by
    obtain ⟨v, rfl, o⟩ := ok1 oo
    obtain ⟨a, ws, rfl, ea, ra⟩ := o.lst e hs
    have z := RpAll.bools ra
    subst z
    exact ⟨a, bs, rfl, SqL.of ea, q _ B H (.rfl' e) (.bl _)⟩
theorem c_sum {ns : List Int} (h : EvA F tr L [s]) (hs : s.data = some (.list (ns.map PyData.int))) : EvE F (tCB (rSum K) tr) L (.d (.int ns.sum)) :=
  c_of h fun H0 B H vs Q e oo q => by
    obtain ⟨v, rfl, o⟩ := ok1 oo
    obtain ⟨a, ws, rfl, ea, ra⟩ := o.lst e hs
    have z := RpAll.ints ra
    subst z
    exact ⟨a, ns, rfl, SqL.of ea, q _ B H (.rfl' e) (.int _)⟩
def rMax2 : List V → Hp → VK → Prop := fun xs H Q => ∃ i j, xs = [.int i, .int j] ∧ Q (.int (if j > i then j else i)) H
def rMin2 : List V → Hp → VK → Prop := fun xs H Q => ∃ i j, xs = [.int i, .int j] ∧ Q (.int (if j < i then j else i)) H
theorem c_max2 {i j : Int} (h : EvA F tr L [.d (.int i), .d (.int j)]) : EvE F (tCB rMax2 tr) L (.d (.int (if j > i then j else i))) :=
  c_of h fun H0 B H vs Q e oo q => by
    obtain ⟨v, w, rfl, o, o2⟩ := ok2 oo
    exact ⟨i, j, by rw [dp_int o, dp_int o2], q _ B H (.rfl' e) (.int _)⟩
theorem c_min2 {i j : Int} (h : EvA F tr L [.d (.int i), .d (.int j)]) : EvE F (tCB rMin2 tr) L (.d (.int (if j < i then j else i))) :=
  c_of h fun H0 B H vs Q e oo q => by
    obtain ⟨v, w, rfl, o, o2⟩ := ok2 oo
    exact ⟨i, j, by rw [dp_int o, dp_int o2], q _ B H (.rfl' e) (.int _)⟩
def rAbs : List V → Hp → VK → Prop := fun xs H Q => ∃ i, xs = [.int i] ∧ Q (.int (if i < 0 then -i else i)) H
theorem c_abs {i : Int} (h : EvA F tr L [.d (.int i)]) : EvE F (tCB rAbs tr) L (.d (.int (if i < 0 then -i else i))) :=
  c_of h fun H0 B H vs Q e oo q => by
    obtain ⟨v, rfl, o⟩ := ok1 oo
    exact ⟨i, by rw [dp_int o], q _ B H (.rfl' e) (.int _)⟩
def rStrI : List V → Hp → VK → Prop := fun xs H Q => ∃ i : Int, xs = [.int i] ∧ i.natAbs.log2 < 1920 ∧ Q (.str (toString i)) H
theorem c_str {i : Int} (h : EvA F tr L [.d (.int i)]) (hi : i.natAbs.log2 < 1920) : EvE F (tCB rStrI tr) L (.d (.str (toString i))) :=
  c_of h fun H0 B H vs Q e oo q => by
    obtain ⟨v, rfl, o⟩ := ok1 oo
    exact ⟨i, by rw [dp_int o], hi, q _ B H (.rfl' e) (.str _)⟩
theorem c_sortI {ns : List Int} (h : EvA F tr L [s]) (hs : s.data = some (.list (ns.map PyData.int))) {ms : List Int} (hm : ∀ ms' : List Int, ms'.Perm ns → ms'.Pairwise (· ≤ ·) → ms' = ms) : EvM F (tCB (rSortedI K) tr) L (ms.map PyData.int) :=
  m_of h fun H0 B H vs Q e oo q => by
    obtain ⟨v, rfl, o⟩ := ok1 oo
    obtain ⟨a, ws, rfl, ea, ra⟩ := o.lst e hs
    have z := RpAll.ints ra
    subst z
    exact ⟨a, ns, rfl, SqL.of ea, fun ns' p h1 h2 hp => by
      have e1 := hm ns' h1 h2
      subst e1
      exact q p _ hp (RpAll.of_ints _)⟩

/-! ### a call of a def: it takes data, hands back data -/
def spR (R : List PyData → PyData → Prop) : Sp := fun vs H Q _ => ∃ B ds d, Ex B H ∧ RpAll B vs ds ∧ R ds d ∧ ∀ v B' H', Grow B H B' H' → Rp B' v d → Q v H'
theorem e_call {R : List PyData → PyData → Prop} {ds : List PyData} {d : PyData} {E : XK} (h : EvA F tr L (ds.map Sl.d)) (hR : R ds d) : EvE F (tCall (spR R) [] E tr) L (.d d) :=
  fun H0 B0 B H σ f g E' Q q => h H0 B0 B H σ f g E' _ fun vs B1 H1 g1 o1 => by
    have ra := OkAll.rp o1
    refine ⟨B1, ds, d, g1.bh, ?_, hR, fun v B2 H2 g2 r => q v B2 H2 (g1.trans g2) r⟩
    rw [List.append_nil]
    exact ra

/-! ### what is walked -/
def WalkD (J : It) (B : Hp) (ds : List PyData) : Prop :=
  ∃ (G : Hp → Prop) (Y : Nat → Hp → V → Hp → Prop), Walk J ds.length G Y ∧ (∀ B' H, Ex B B' → Ex B' H → G H) ∧
    ∀ (i : Nat) H x H' B', Ex B B' → Ex B' H → i < ds.length → Y i H x H' → ∃ B'' d, Grow B' H B'' H' ∧ ds[i]? = some d ∧ Rp B'' x d
def IterE (F : Fx) (wi : TI) (L : List Sl) (ds : List PyData) : Prop :=
  ∀ (H0 B0 B H : Hp) (σ : St), F H0 B0 → Grow B0 H0 B H → Env H0 B H σ L → ∀ R : It → Hp → Prop, (∀ J B' H', Grow B H B' H' → WalkD J B' ds → R J H') → wi σ H R
theorem IterE.is {wi : TI} {ds es : List PyData} (h : IterE F wi L ds) (e : ds = es) : IterE F wi L es := e ▸ h
theorem walkD_list {B : Hp} {a : Addr} {vs : List V} {ds : List PyData} (h : B a = some (.lst vs)) (r : RpAll B vs ds) : WalkD (Itl K a) B ds := by
  refine ⟨_, _, (RpAll.len r) ▸ walk_list (K := K) (a := a) (xs := vs), fun B' H e e' => SqL.of (e' _ _ (e _ _ h)), fun i H x H' B' e e' hi y => ?_⟩
  obtain ⟨rfl, hx⟩ := y
  obtain ⟨d, hd, rd⟩ := RpAll.get' r hx
  exact ⟨B', d, .rfl' e', hd, dp_mono e rd⟩
theorem walkD_tup {B : Hp} {a : Addr} {vs : List V} {ds : List PyData} (h : B a = some (.tup vs)) (r : RpAll B vs ds) : WalkD (Itt K a) B ds := by
  refine ⟨_, _, (RpAll.len r) ▸ walk_tup (K := K) (a := a) (xs := vs), fun B' H e e' => SqT.of (e' _ _ (e _ _ h)), fun i H x H' B' e e' hi y => ?_⟩
  obtain ⟨rfl, hx⟩ := y
  obtain ⟨d, hd, rd⟩ := RpAll.get' r hx
  exact ⟨B', d, .rfl' e', hd, dp_mono e rd⟩
theorem it_list {ds : List PyData} (h : EvE F te L (.d (.list ds))) : IterE F (iList K te) L ds := fun H0 B0 B H σ f g E R q =>
  h H0 B0 B H σ f g E _ fun v B1 H1 g1 o1 => by
    obtain ⟨a, vs, rfl, ea, ra⟩ := dp_lst o1
    exact ⟨a, rfl, ⟨vs, SqL.of (g1.bh _ _ ea)⟩, q _ B1 H1 g1 (walkD_list ea ra)⟩
theorem it_tup {ds : List PyData} (h : EvE F te L (.d (.tuple ds))) : IterE F (iTup K te) L ds := fun H0 B0 B H σ f g E R q =>
  h H0 B0 B H σ f g E _ fun v B1 H1 g1 o1 => by
    obtain ⟨a, vs, rfl, ea, ra⟩ := dp_tup o1
    exact ⟨a, rfl, ⟨vs, SqT.of (g1.bh _ _ ea)⟩, q _ B1 H1 g1 (walkD_tup ea ra)⟩
theorem it_range1 {n : Nat} {i : Int} (h : EvA F tr L [.d (.int i)]) (hi : i = (n : Int)) (hn : n ≤ 100000) : IterE F (iRng1 tr) L ((List.range n).map fun (k : Nat) => PyData.int (k : Int)) := fun H0 B0 B H σ f g E R q =>
  h H0 B0 B H σ f g E _ fun vs B1 H1 g1 oo => by
    subst hi
    obtain ⟨v, rfl, o1⟩ := ok1 oo
    have e := dp_int o1
    subst e
    refine ⟨(n : Int), rfl, by omega, by omega, q _ B1 H1 g1 ?_⟩
    refine ⟨fun _ => True, YFn fun i => .int (0 + i), ?_, fun _ _ _ _ => trivial, fun j H x H' B' e e' hj y => ?_⟩
    · have w := walk_range (lo := 0) (n := (n : Int).toNat)
      rw [Int.toNat_natCast] at w ⊢
      rw [List.length_map, List.length_range]
      exact w
    · obtain ⟨rfl, rfl⟩ := y
      rw [List.length_map, List.length_range] at hj
      refine ⟨B', .int (j : Int), .rfl' e', ?_, ?_⟩
      · rw [List.getElem?_map, List.getElem?_range hj] <;> rfl
      · have e0 : (0 : Int) + (j : Nat) = (j : Int) := Int.zero_add _
        show Rp B' (V.int ((0 : Int) + (j : Nat))) _
        rw [e0]
        exact .int _
def signs (x : Str) : List PyData := x.cps.toList.map fun c => .str ⟨#[c]⟩
theorem it_str {x : Str} (h : EvE F te L (.d (.str x))) : IterE F (iStr te) L (signs x) := fun H0 B0 B H σ f g E R q =>
  h H0 B0 B H σ f g E _ fun v B1 H1 g1 o1 => by
    refine ⟨x, dp_str o1, q _ B1 H1 g1 ?_⟩
    have hl : (signs x).length = x.cps.size := by unfold signs; rw [List.length_map, Array.length_toList]
    refine ⟨fun _ => True, _, hl.symm ▸ walk_str (z := x), fun _ _ _ _ => trivial, fun i H x' H' B' e e' hi y => ?_⟩
    obtain ⟨rfl, c, hc, rfl⟩ := y
    refine ⟨B', .str ⟨#[c]⟩, .rfl' e', ?_, .str _⟩
    unfold signs
    rw [List.getElem?_map, Array.getElem?_toList, hc] <;> rfl
def enumD (ds : List PyData) : List PyData := ds.mapIdx fun i d => .tuple [.int (i : Int), d]
theorem enumD_get {ds : List PyData} {i : Nat} {d : PyData} (h : ds[i]? = some d) : (enumD ds)[i]? = some (.tuple [.int (i : Int), d]) := by
  unfold enumD; rw [List.getElem?_mapIdx, h] <;> rfl
theorem enumD_len {ds : List PyData} : (enumD ds).length = ds.length := by unfold enumD; rw [List.length_mapIdx]
theorem pair_walk {B' H H' B : Hp} {T : Addr} {x y : V} {d e : PyData} (eb : Ex B B') (e' : Ex B' H) (hT : H T = none) (eH : H' = upd H T (.tup [x, y])) (r1 : Rp B x d) (r2 : Rp B y e) : ∃ B'', Grow B' H B'' H' ∧ Rp B'' (.ref T) (.tuple [d, e]) := by
  subst eH
  have hb := Evl.fresh_back e' hT
  refine ⟨upd B' T (.tup [x, y]), Grow.put e' hT, .tup upd_same ?_⟩
  exact dpa_two (dp_mono (Ex.new hb) (dp_mono eb r1)) (dp_mono (Ex.new hb) (dp_mono eb r2))
theorem it_enum {ds : List PyData} (h : EvA F tr L [.d (.list ds)]) : IterE F (iEnum K tr) L (enumD ds) := fun H0 B0 B H σ f g E R q =>
  h H0 B0 B H σ f g E _ fun vs B1 H1 g1 oo => by
    obtain ⟨v, rfl, o1⟩ := ok1 oo
    obtain ⟨a, vs, rfl, ea, ra⟩ := dp_lst o1
    have ln := RpAll.len ra
    refine ⟨a, vs, rfl, SqL.of (g1.bh _ _ ea), q _ B1 H1 g1 ?_⟩
    have hl : (enumD ds).length = vs.length := by rw [enumD_len, ln]
    refine ⟨_, _, hl.symm ▸ walk_enum (K := K) (a := a) (xs := vs), fun B' H e e' => SqL.of (e' _ _ (e _ _ ea)), fun i H x H' B' e e' hi y => ?_⟩
    obtain ⟨T, x1, y1, rfl, hT, eH, h1, h2⟩ := y
    have h1 : x1 = .int (i : Nat) := (Option.some.inj h1).symm
    subst h1
    obtain ⟨d, hd, rd⟩ := RpAll.get' ra h2
    obtain ⟨B'', gg, rr⟩ := pair_walk e e' hT eH (.int (i : Nat)) rd
    exact ⟨B'', _, gg, enumD_get hd, rr⟩
def zipD (xs ys : List PyData) : List PyData := List.zipWith (fun x y => .tuple [x, y]) xs ys
theorem zipD_len {xs ys : List PyData} : (zipD xs ys).length = min xs.length ys.length := by unfold zipD; rw [List.length_zipWith]
theorem zipD_get {xs ys : List PyData} {i : Nat} {x y : PyData} (h : xs[i]? = some x) (k : ys[i]? = some y) : (zipD xs ys)[i]? = some (.tuple [x, y]) := by
  unfold zipD; rw [List.getElem?_zipWith, h, k] <;> rfl
theorem walk_zipT {a b : Addr} {xs ys : List V} {n : Nat} (hn : n = min xs.length ys.length) : Walk (RZ.ItzT K a b) n (fun H => SqT K H a xs ∧ SqT K H b ys) (YPair (fun i => xs[i]?) (fun i => ys[i]?)) := by
  subst hn
  refine ⟨fun i _ hi q => ?_, fun _ q => ⟨xs, ys, q.1, q.2, by omega⟩, fun i H v H' _ q y => ?_⟩
  · have h1 : i < xs.length := by omega
    have h2 : i < ys.length := by omega
    exact ⟨xs, ys, xs[i], ys[i], q.1, q.2, by simp [h1], by simp [h2]⟩
  · obtain ⟨T, x, z, h1, h2, h3, h4, h5⟩ := y
    exact ⟨T, x, z, h1, h2, h3, h4 xs q.1, h5 ys q.2⟩
theorem it_zipL {xs ys : List PyData} (h : EvA F tr L [.d (.list xs), .d (.list ys)]) : IterE F (RZ.iZipA K tr) L (zipD xs ys) := fun H0 B0 B H σ f g E R q =>
  h H0 B0 B H σ f g E _ fun vs B1 H1 g1 oo => by
    obtain ⟨v, w, rfl, o1, o2⟩ := ok2 oo
    obtain ⟨a, vs, rfl, ea, ra⟩ := dp_lst o1
    obtain ⟨c, ws, rfl, ec, rc⟩ := dp_lst o2
    have l1 := RpAll.len ra
    have l2 := RpAll.len rc
    refine ⟨a, c, vs, ws, rfl, .inl ⟨SqL.of (g1.bh _ _ ea), SqL.of (g1.bh _ _ ec), q _ B1 H1 g1 ?_⟩⟩
    refine ⟨_, _, walk_zip (K := K) (a := a) (b := c) (xs := vs) (ys := ws) (by rw [zipD_len, l1, l2]), fun B' H e e' => ⟨SqL.of (e' _ _ (e _ _ ea)), SqL.of (e' _ _ (e _ _ ec))⟩, fun i H x H' B' e e' hi y => ?_⟩
    obtain ⟨T, x1, y1, rfl, hT, eH, h1, h2⟩ := y
    obtain ⟨d1, hd1, rd1⟩ := RpAll.get' ra h1
    obtain ⟨d2, hd2, rd2⟩ := RpAll.get' rc h2
    obtain ⟨B'', gg, rr⟩ := pair_walk e e' hT eH rd1 rd2
    exact ⟨B'', _, gg, zipD_get hd1 hd2, rr⟩
theorem it_zipT {xs ys : List PyData} (h : EvA F tr L [.d (.tuple xs), .d (.tuple ys)]) : IterE F (RZ.iZipA K tr) L (zipD xs ys) := fun H0 B0 B H σ f g E R q =>
  h H0 B0 B H σ f g E _ fun vs B1 H1 g1 oo => by
    obtain ⟨v, w, rfl, o1, o2⟩ := ok2 oo
    obtain ⟨a, vs, rfl, ea, ra⟩ := dp_tup o1
    obtain ⟨c, ws, rfl, ec, rc⟩ := dp_tup o2
    have l1 := RpAll.len ra
    have l2 := RpAll.len rc
    refine ⟨a, c, vs, ws, rfl, .inr ⟨SqT.of (g1.bh _ _ ea), SqT.of (g1.bh _ _ ec), q _ B1 H1 g1 ?_⟩⟩
    refine ⟨_, _, walk_zipT (K := K) (a := a) (b := c) (xs := vs) (ys := ws) (by rw [zipD_len, l1, l2]), fun B' H e e' => ⟨SqT.of (e' _ _ (e _ _ ea)), SqT.of (e' _ _ (e _ _ ec))⟩, fun i H x H' B' e e' hi y => ?_⟩
    obtain ⟨T, x1, y1, rfl, hT, eH, h1, h2⟩ := y
    obtain ⟨d1, hd1, rd1⟩ := RpAll.get' ra h1
    obtain ⟨d2, hd2, rd2⟩ := RpAll.get' rc h2
    obtain ⟨B'', gg, rr⟩ := pair_walk e e' hT eH rd1 rd2
    exact ⟨B'', _, gg, zipD_get hd1 hd2, rr⟩

/-! ### targets -/
def TgE (g : TG) (js : List Nat) (d : PyData) (es : List PyData) : Prop :=
  ∀ (B H : Hp) (σ : St) (v : V) (Q : St → Hp → Prop), Ex B H → Rp B v d → (∀ ws, RpAll B ws es → js.length = ws.length → Q (setAll σ js ws) H) → g v σ H Q
def TgsE (t : TGs) (js : List Nat) (ds : List PyData) (es : List PyData) : Prop :=
  ∀ (B H : Hp) (σ : St) (vs : List V) (Q : St → Hp → Prop), Ex B H → RpAll B vs ds → (∀ ws, RpAll B ws es → js.length = ws.length → Q (setAll σ js ws) H) → t vs σ H Q
theorem g_name {j : Nat} {d : PyData} : TgE (gName j) [j] d [d] := fun B H σ v Q e r q => q [v] (dpa_one r) rfl
theorem gs_nil : TgsE gNil [] [] [] := fun B H σ vs Q e r q => by
  cases r
  exact ⟨rfl, q [] .nil rfl⟩
theorem gs_cons {g : TG} {tg : TGs} {js ks : List Nat} {d : PyData} {ds es fs : List PyData} (h : TgE g js d es) (k : TgsE tg ks ds fs) : TgsE (gCons g tg) (js ++ ks) (d :: ds) (es ++ fs) := fun B H σ vs Q e r q => by
  cases r with
  | cons a r =>
    refine ⟨_, _, rfl, h B H σ _ _ e a fun ws rw_ hl => k B H _ _ Q e r fun ws2 rw2 hl2 => ?_⟩
    rw [← setAll_append σ js ks ws ws2 hl]
    exact q _ (RpAll.append rw_ rw2) (by rw [List.length_append, List.length_append, hl, hl2])
theorem g_tup {tg : TGs} {js : List Nat} {ds es : List PyData} {n : Nat} (h : TgsE tg js ds es) (hn : ds.length = n := by rfl) : TgE (gTup K n tg) js (.tuple ds) es := fun B H σ v Q e r q => by
  obtain ⟨a, vs, rfl, ea, ra⟩ := dp_tup r
  exact ⟨a, vs, rfl, SqT.of (e _ _ ea), by rw [RpAll.len ra, hn], h B H σ vs Q e ra q⟩

/-! ### comprehensions -/
theorem m_lc {wi : TI} {g : TG} {js vs : List Nat} {ds : List PyData} (hi : IterE F wi L ds) (keep : Nat → Bool) (val : Nat → PyData) (hj : ∀ j ∈ js, j ∈ vs)
    (turn : ∀ (i : Nat) d, ds[i]? = some d → ∃ es, TgE g js d es ∧ EvT F tt (setAllD (wipeD L vs) js es) (keep i) ∧ (keep i = true → EvE F te (setAllD (wipeD L vs) js es) (.d (val i))))
    (hz : ds.length ≤ 100000) : EvM F (tLc wi g tt te vs) L (((List.range ds.length).filter keep).map val) := by
  intro H0 B0 B H σ f g0 E Q q
  refine hi H0 B0 B H σ f g0 E _ fun J B1 H1 g1 W => ?_
  obtain ⟨G, Y, w, hG, hY⟩ := W
  intro D hD
  have bD := Evl.fresh_back g1.bh hD
  refine lc_it w (fun i H' => ∃ B' acc, Grow B1 H1 B' H' ∧ B' D = none ∧ H' D = some (.lst acc) ∧ RpAll B' acc (((List.range i).filter keep).map val)) ⟨B1, [], Grow.side g1.bh hD, bD, upd_same, .nil⟩ (fun i H' _ ⟨B', acc, gg, _⟩ => hG B' H' gg.bb gg.bh) ?_ ?_
  · rintro i x H' H2 hlt ⟨B', acc, gg, bD', eD, ra⟩ y
    obtain ⟨B2, d, g2, hd, rx⟩ := hY i H' x H2 B' gg.bb gg.bh hlt y
    obtain ⟨es, tg, et, ee⟩ := turn i d hd
    refine tg B2 H2 (L2.wipe σ vs) x _ g2.bh rx fun ws rws hl => ⟨?_, ?_⟩
    · rw [wipe_setAll hj, wipe_wipe vs vs fun _ h => h]
    have E2 : Env H0 B2 H2 (setAll (L2.wipe σ vs) js ws) (setAllD (wipeD L vs) js es) := ((((E.mono g1).mono gg).mono g2).wipe vs).setAll rws
    have gg2 := ((g0.trans g1).trans gg).trans g2
    refine et H0 B0 B2 H2 _ f gg2 E2 _ fun B3 H3 g3 => ?_
    have eD3 : H3 D = some (.lst acc) := g3.hh _ _ (g2.hh _ _ eD)
    have bD3 : B3 D = none := g3.nw _ _ (g2.hh _ _ eD) (g2.nw _ _ eD bD')
    cases hk : keep i with
    | false =>
      rw [if_neg Bool.false_ne_true]
      refine ⟨B3, acc, (gg.trans g2).trans g3, bD3, eD3, ?_⟩
      have e1 : ((List.range (i + 1)).filter keep) = (List.range i).filter keep := by
        rw [List.range_succ, List.filter_append, List.filter_cons_of_neg (by rw [hk]; exact Bool.false_ne_true), List.filter_nil, List.append_nil]
      rw [e1]
      exact dpa_mono (g2.bb.trans g3.bb) ra
    | true =>
      rw [if_pos rfl]
      refine ee hk H0 B0 B3 H3 _ f (gg2.trans g3) (E2.mono g3) _ fun y4 B4 H4 g4 o4 => ?_
      have eD4 : H4 D = some (.lst acc) := g4.hh _ _ eD3
      have bD4 : B4 D = none := g4.nw _ _ eD3 bD3
      have ra4 := dpa_mono ((g2.bb.trans g3.bb).trans g4.bb) ra
      have hlen : acc.length ≤ i := by
        rw [RpAll.len ra, List.length_map]
        have := List.length_filter_le keep (List.range i)
        rwa [List.length_range] at this
      refine ⟨acc, eD4, Nat.lt_of_le_of_lt (Nat.le_trans hlen (by omega : i ≤ 100000)) (by decide), B4, acc ++ [y4], (((gg.trans g2).trans g3).trans g4).mut hD bD4, bD4, upd_same, ?_⟩
      have e1 : ((List.range (i + 1)).filter keep) = (List.range i).filter keep ++ [i] := by
        rw [List.range_succ, List.filter_append, List.filter_cons_of_pos hk, List.filter_nil]
      rw [e1, List.map_append]
      exact RpAll.append ra4 (dpa_one o4)
  · rintro H' ⟨B', acc, gg, bD', eD, ra⟩
    exact q D acc B' H' (g1.trans gg) (Evl.fresh_back g1.hh hD) bD' eD ra
theorem t_yes : EvT F tYes L true := fun H0 B0 B H σ f g E Q q => q B H (.rfl' g.bh)
/-- without a test -/
theorem m_lcm {wi : TI} {g : TG} {js vs : List Nat} {ds rs : List PyData} (hi : IterE F wi L ds) (hl : rs.length = ds.length) (hj : ∀ j ∈ js, j ∈ vs)
    (turn : ∀ (i : Nat) d r, ds[i]? = some d → rs[i]? = some r → ∃ es, TgE g js d es ∧ EvE F te (setAllD (wipeD L vs) js es) (.d r)) (hz : ds.length ≤ 100000) : EvM F (tLc wi g tYes te vs) L rs := by
  have h := m_lc (te := te) (tt := tYes) hi (fun _ => true) (fun i => rs.getD i .none) hj (fun i d hd => by
    have hi : i < rs.length := by rw [hl]; exact (List.getElem?_eq_some_iff.mp hd).1
    obtain ⟨es, h1, h2⟩ := turn i d rs[i] hd (List.getElem?_eq_getElem hi)
    refine ⟨es, h1, t_yes, fun _ => ?_⟩
    rw [List.getD_eq_getElem?_getD, List.getElem?_eq_getElem hi]
    exact h2) hz
  refine h.is ?_
  rw [List.filter_eq_self.mpr (fun _ _ => rfl), ← hl]
  apply List.ext_getElem?
  intro i
  rw [List.getElem?_map]
  by_cases hi : i < rs.length
  · rw [List.getElem?_range hi, List.getElem?_eq_getElem hi, Option.map_some, List.getD_eq_getElem?_getD, List.getElem?_eq_getElem hi] <;> rfl
  · rw [List.getElem?_eq_none (by rw [List.length_range]; omega), List.getElem?_eq_none (by omega)] <;> rfl

/-! ### statements -/
structure Post where
  nx : List Sl → Prop := fun _ => False
  rt : PyData → Prop := fun _ => False
  bk : List Sl → Prop := fun _ => False
  ct : List Sl → Prop := fun _ => False
def To (H0 B0 B : Hp) (L : List Sl → Prop) (k : St → Hp → Prop) : Prop := ∀ L' B' H' σ', L L' → Grow B0 H0 B' H' → Ex B B' → Env H0 B' H' σ' L' → k σ' H'
def RunE (F : Fx) (t : TS) (L : List Sl) (P : Post) : Prop :=
  ∀ (H0 B0 B H : Hp) (σ : St) (D : Ends), F H0 B0 → Grow B0 H0 B H → Env H0 B H σ L → To H0 B0 B P.nx D.nx → (∀ d v B' H', P.rt d → Grow B0 H0 B' H' → Rp B' v d → D.rt v H') → To H0 B0 B P.bk D.bk → To H0 B0 B P.ct D.ct → t D σ H
theorem To.mono {H0 B0 B B' : Hp} {p : List Sl → Prop} {k : St → Hp → Prop} (h : To H0 B0 B p k) (e : Ex B B') : To H0 B0 B' p k := fun L' B2 H' σ' a g e2 E => h L' B2 H' σ' a g (e.trans e2) E
variable {tx ty : TS} {P : Post}
theorem r_seq {M : List Sl} (h : RunE F tx L { P with nx := fun L' => L' = M }) (k : RunE F ty M P) : RunE F (tSeq tx ty) L P := fun H0 B0 B H σ D f g E n r b c =>
  h H0 B0 B H σ { D with nx := ty D } f g E (fun L' B' H' σ' e g' x E' => by subst e; exact k H0 B0 B' H' σ' D f g' E' (n.mono x) r (b.mono x) (c.mono x)) r b c
theorem r_seqI {I : List Sl → Prop} (h : RunE F tx L { P with nx := I }) (k : ∀ M, I M → RunE F ty M P) : RunE F (tSeq tx ty) L P := fun H0 B0 B H σ D f g E n r b c =>
  h H0 B0 B H σ { D with nx := ty D } f g E (fun L' B' H' σ' e g' x E' => k L' e H0 B0 B' H' σ' D f g' E' (n.mono x) r (b.mono x) (c.mono x)) r b c
theorem r_imp {P' : Post} (h : RunE F tx L P) (h1 : ∀ M, P.nx M → P'.nx M) (h2 : ∀ d, P.rt d → P'.rt d) (h3 : ∀ M, P.bk M → P'.bk M) (h4 : ∀ M, P.ct M → P'.ct M) : RunE F tx L P' := fun H0 B0 B H σ D f g E n r b c =>
  h H0 B0 B H σ D f g E (fun L' B' H' σ' e => n L' B' H' σ' (h1 L' e)) (fun d v B' H' e => r d v B' H' (h2 d e)) (fun L' B' H' σ' e => b L' B' H' σ' (h3 L' e)) (fun L' B' H' σ' e => c L' B' H' σ' (h4 L' e))
theorem r_next (h : P.nx L) : RunE F tNext L P := fun H0 B0 B H σ D f g E n r b c => n L B H σ h g (Ex.refl B) E
theorem r_asg {i : Nat} (h : EvE F te L s) (hm : isM s = false := by rfl) (k : P.nx (L.set i s)) : RunE F (tAsg te (gName i)) L P := fun H0 B0 B H σ D f g E n r b c =>
  h H0 B0 B H σ f g E _ fun v B1 H1 g1 o1 => n _ B1 H1 _ k (g.trans g1) g1.bb ((E.mono g1).set o1 hm)
theorem r_asgM {i : Nat} {xs : List PyData} (h : EvM F te L xs) (k : P.nx (L.set i (.m xs))) : RunE F (tAsg te (gName i)) L P := fun H0 B0 B H σ D f g E n r b c =>
  h H0 B0 B H σ f g E _ fun l vs B1 H1 g1 hl bl el ra => n _ B1 H1 _ k (g.trans g1) g1.bb ((E.mono g1).setM (Evl.fresh_back g.hh hl) bl el ra fun j t hj ht mt z => by
    rcases E.at_ j t ht with y | ⟨v, e, o⟩
    · subst y; cases mt
    · rw [z] at e
      cases e
      cases t with
      | m ys =>
        obtain ⟨l2, vs2, e2, _, _, h2, _⟩ := o
        cases e2
        rw [h2] at hl
        cases hl
      | u => cases mt
      | d x => cases mt
      | v x => cases mt)
/-- a, b = data -/
theorem r_asgT {g : TG} {js : List Nat} {d : PyData} {es : List PyData} (h : EvE F te L (.d d)) (hg : TgE g js d es) (k : P.nx (setAllD L js es)) : RunE F (tAsg te g) L P := fun H0 B0 B H σ D f g0 E n r b c =>
  h H0 B0 B H σ f g0 E _ fun v B1 H1 g1 o1 => hg B1 H1 σ v _ g1.bh o1 fun ws rws hl => n _ B1 H1 _ k (g0.trans g1) g1.bb ((E.mono g1).setAll rws)
theorem r_drop (h : EvE F te L s) (k : P.nx L) : RunE F (tDrop te) L P := fun H0 B0 B H σ D f g E n r b c =>
  h H0 B0 B H σ f g E _ fun v B1 H1 g1 o1 => n _ B1 H1 σ k (g.trans g1) g1.bb (E.mono g1)
theorem r_ret {d : PyData} (h : EvE F te L s) (hd : s = .d d) (k : P.rt d) : RunE F (tRet te) L P := fun H0 B0 B H σ D f g E n r b c => by
  subst hd
  exact h H0 B0 B H σ f g E _ fun v B1 H1 g1 o1 => r d v B1 H1 k (g.trans g1) o1
/-- return of a list of the call's own -/
theorem r_retM {xs : List PyData} (h : EvE F te L (.m xs)) (k : P.rt (.list xs)) : RunE F (tRet te) L P := fun H0 B0 B H σ D f g E n r b c =>
  h H0 B0 B H σ f g E _ fun v B1 H1 g1 o1 => by
    obtain ⟨l, vs, rfl, h0, hb, hl, a⟩ := o1
    exact r _ _ (upd B1 l (.lst vs)) H1 k ((g.trans g1).freeze h0 hl hb) (.lst upd_same (dpa_mono (Ex.new hb) a))
theorem r_retN (k : P.rt .none) : RunE F tRetN L P := fun H0 B0 B H σ D f g E n r b c => r _ _ B H k g .non
theorem r_if (h : EvT F tt L b) (h1 : b = true → RunE F tx L P) (h2 : b = false → RunE F ty L P) : RunE F (tIfS tt tx ty) L P := fun H0 B0 B H σ D f g E n r b' c' =>
  h H0 B0 B H σ f g E _ fun B1 H1 g1 => by
    cases b with
    | true => exact h1 rfl H0 B0 B1 H1 σ D f (g.trans g1) (E.mono g1) (n.mono g1.bb) r (b'.mono g1.bb) (c'.mono g1.bb)
    | false => exact h2 rfl H0 B0 B1 H1 σ D f (g.trans g1) (E.mono g1) (n.mono g1.bb) r (b'.mono g1.bb) (c'.mono g1.bb)
/-- if test: (never goes on), then the rest -/
theorem r_guard (h : EvT F tt L b) (h1 : b = true → RunE F tx L { P with nx := fun _ => False }) (k : b = false → RunE F ty L P) : RunE F (tSeq (tIfS tt tx tNext) ty) L P := by
  cases b with
  | true => exact r_seqI (I := fun _ => False) (r_if h (fun e => h1 e) fun e => nomatch e) fun M z => z.elim
  | false => exact r_seq (M := L) (r_if h (fun e => nomatch e) fun _ => r_next rfl) (k rfl)
/-- xs.append(e) -/
theorem r_app {i : Nat} {xs : List PyData} {d : PyData} (hi : L[i]? = some (.m xs)) (h : EvE F te L (.d d)) (hz : xs.length ≤ 100000) (k : P.nx (L.set i (.m (xs ++ [d])))) : RunE F (tDrop (tBM K "list" rAppend (tVar i) (tCons te tNil))) L P := fun H0 B0 B H σ D f g E n r b c => by
  obtain ⟨l, vs, e, h0, hb, hl, ra⟩ := E.mget hi
  refine ⟨.ref l, e, .inl ⟨rfl, vs, SqL.of hl⟩, ?_⟩
  refine h H0 B0 B H σ f g E _ fun v B1 H1 g1 o1 => ?_
  have hl1 := g1.hh _ _ hl
  have hb1 := g1.nw _ _ hl hb
  have ra1 := dpa_mono g1.bb ra
  refine ⟨l, vs, v, rfl, rfl, hl1, Nat.lt_of_le_of_lt (by rw [RpAll.len ra]; exact hz) (by decide), ?_⟩
  exact n _ B1 _ σ k ((g.trans g1).mut h0 hb1) g1.bb ((E.mono g1).mut hi e h0 hb1 (RpAll.append ra1 (dpa_one o1)))
/-- xs[i] = e -/
theorem r_setI {i : Nat} {xs : List PyData} {d : PyData} {k : Int} {j : Nat} {ti : TE} (hi : L[i]? = some (.m xs)) (h : EvE F te L (.d d)) (ht : EvE F ti L (.d (.int k))) (hj : ixN xs.length k = some j) (q : P.nx (L.set i (.m (xs.set j d)))) : RunE F (tAsg te (gSub (tVar i) ti rSetL)) L P := fun H0 B0 B H σ D f g E n r b c => by
  refine h H0 B0 B H σ f g E _ fun v B1 H1 g1 o1 => ?_
  obtain ⟨l, vs, e, h0, hb, hl, ra⟩ := (E.mono g1).mget hi
  refine ⟨.ref l, e, ?_⟩
  refine ht H0 B0 B1 H1 σ f (g.trans g1) (E.mono g1) _ fun w B2 H2 g2 o2 => ?_
  have hl2 := g2.hh _ _ hl
  have hb2 := g2.nw _ _ hl hb
  refine ⟨l, vs, k, j, rfl, dp_int o2, hl2, by rw [RpAll.len ra]; exact hj, ?_⟩
  exact n _ B2 _ σ q (((g.trans g1).trans g2).mut h0 hb2) (g1.bb.trans g2.bb) (((E.mono g1).mono g2).mut hi e h0 hb2 (RpAll.set (dp_mono g2.bb o1) j (dpa_mono g2.bb ra)))
theorem r_for {wi : TI} {g : TG} {js : List Nat} {ds : List PyData} (hi : IterE F wi L ds) (I : Nat → List Sl → Prop) (h0 : I 0 L)
    (turn : ∀ (i : Nat) d L', ds[i]? = some d → I i L' → ∃ es, TgE g js d es ∧ RunE F tx (setAllD L' js es) { nx := I (i + 1), ct := I (i + 1), bk := P.nx, rt := P.rt })
    (hd : ∀ L', I ds.length L' → P.nx L') : RunE F (tFor wi g tx) L P := fun H0 B0 B H σ D f g0 E n r b c => by
  refine hi H0 B0 B H σ f g0 E _ fun J B1 H1 g1 W => ?_
  obtain ⟨G, Y, w, hG, hY⟩ := W
  refine for_it w (fun i σ' H' => ∃ L' B', I i L' ∧ Grow B0 H0 B' H' ∧ Ex B1 B' ∧ Env H0 B' H' σ' L') ⟨L, B1, h0, g0.trans g1, Ex.refl _, E.mono g1⟩ (fun i σ' H' _ ⟨L', B', _, gg, e, _⟩ => hG B' H' e gg.bh) ?_ ?_
  · rintro i x σ' H' H2 hlt ⟨L', B', hI, gg, e, E'⟩ y
    obtain ⟨B2, d, g2, hd', rx⟩ := hY i H' x H2 B' e gg.bh hlt y
    obtain ⟨es, tg, run⟩ := turn i d L' hd' hI
    refine tg B2 H2 σ' x _ g2.bh rx fun ws rws hl => ?_
    refine run H0 B0 B2 H2 _ _ f (gg.trans g2) ((E'.mono g2).setAll rws) (fun L2 B3 H3 σ3 i2 g3 e3 E3 => ⟨L2, B3, i2, g3, (e.trans g2.bb).trans e3, E3⟩) r (fun L2 B3 H3 σ3 i2 g3 e3 E3 => n L2 B3 H3 σ3 i2 g3 ((((g1.bb).trans e).trans g2.bb).trans e3) E3) (fun L2 B3 H3 σ3 i2 g3 e3 E3 => ⟨L2, B3, i2, g3, (e.trans g2.bb).trans e3, E3⟩)
  · rintro σ' H' ⟨L', B', hI, gg, e, E'⟩
    exact n L' B' H' σ' (hd L' hI) gg (g1.bb.trans e) E'
/-- a, b = e, e' -/
theorem r_par {i j : Nat} (h : EvA F tr L [s, t]) (hs : isM s = false) (ht : isM t = false) (k : P.nx ((L.set i s).set j t)) : RunE F (tPar i j tr) L P := fun H0 B0 B H σ D f g E n r b c =>
  h H0 B0 B H σ f g E _ fun vs B1 H1 g1 oo => by
    obtain ⟨v, w, rfl, o1, o2⟩ := ok2 oo
    exact ⟨v, w, rfl, n _ B1 H1 _ k (g.trans g1) g1.bb (((E.mono g1).set o1 hs).set o2 ht)⟩
/-- a, b = e, [..] where the second is a new list that will be changed -/
theorem r_parM {i j : Nat} {xs : List PyData} (h : EvE F te L s) (h2 : EvM F tc L xs) (hs : isM s = false) (k : P.nx ((L.set i s).set j (.m xs))) : RunE F (tPar i j (tCons te (tCons tc tNil))) L P := fun H0 B0 B H σ D f g E n r b c =>
  h H0 B0 B H σ f g E _ fun v B1 H1 g1 o1 => h2 H0 B0 B1 H1 σ f (g.trans g1) (E.mono g1) _ fun l vs B2 H2 g2 hl bl el ra => by
    refine ⟨v, .ref l, rfl, n _ B2 H2 _ k ((g.trans g1).trans g2) (g1.bb.trans g2.bb) ((((E.mono g1).mono g2).set (o1.mono g2) hs).setM (Evl.fresh_back (g.trans g1).hh hl) bl el ra fun q y hq hy my z => ?_)⟩
    by_cases hiq : i = q
    · subst hiq
      have hlt : i < L.length := by
        have := (List.getElem?_eq_some_iff.mp hy).1
        rwa [List.length_set] at this
      rw [List.getElem?_set_self hlt] at hy
      cases hy
      rw [hs] at my
      cases my
    · rw [List.getElem?_set_ne hiq] at hy z
      rcases E.at_ q y hy with u | ⟨v', e, o⟩
      · subst u; cases my
      · rw [z] at e
        cases e
        cases y with
        | m ys =>
          obtain ⟨l2, vs2, e2, _, _, h3, _⟩ := o
          cases e2
          rw [g1.hh _ _ h3] at hl
          cases hl
        | u => cases my
        | d x => cases my
        | v x => cases my
end

/-! ### a def -/
def startD (N : List Str) (ds : List PyData) : List Sl := ds.map Sl.d ++ List.replicate (N.length - ds.length) .u
theorem env_start {H B : Hp} {N : List Str} {vs : List V} {ds : List PyData} (r : RpAll B vs ds) : Env H B H (L2.start N vs) (startD N ds) := by
  have ln := RpAll.len r
  have lm : (vs.map some).length = vs.length := List.length_map _
  have lm2 : (ds.map Sl.d).length = ds.length := List.length_map _
  refine ⟨by unfold L2.start startD; simp [ln], fun i s e => ?_, fun i j s t l _ e1 m1 => ?_⟩
  · unfold startD at e
    by_cases hi : i < ds.length
    · rw [List.getElem?_append_left (by rw [lm2]; exact hi), List.getElem?_map] at e
      cases hd : ds[i]? with
      | none => rw [hd] at e; cases e
      | some d =>
        rw [hd] at e
        cases e
        obtain ⟨v, hv, rv⟩ := RpAll.get r hd
        refine .inr ⟨v, ?_, rv⟩
        unfold L2.start
        rw [List.getElem?_append_left (by rw [lm, ln]; exact hi), List.getElem?_map, hv] <;> rfl
    · rw [List.getElem?_append_right (by rw [lm2]; omega), List.getElem?_replicate] at e
      split at e
      · cases e; exact .inl rfl
      · cases e
  · exfalso
    unfold startD at e1
    by_cases hi : i < ds.length
    · rw [List.getElem?_append_left (by rw [lm2]; exact hi), List.getElem?_map] at e1
      cases hd : ds[i]? with
      | none => rw [hd] at e1; cases e1
      | some d => rw [hd] at e1; cases e1; cases m1
    · rw [List.getElem?_append_right (by rw [lm2]; omega), List.getElem?_replicate] at e1
      split at e1
      · cases e1; cases m1
      · cases e1
section
variable {P : Program} {w : World} {K : PySem.W.Frag} {mg : Str → Option Value} {base : Heap}
theorem fn_pure {x qual : Str} {st : Stmt} {f : Addr} {fd : FuncData} {N ps : List Str} {k : Nat} {R : List PyData → PyData → Prop} (Fn : Fun K x qual st f fd) (S : FnScope N ps (defScope st)) (len : ∀ ds d, R ds d → ds.length = ps.length)
    (body : ∀ (cdv : Value) (A : Around) (outer : List PySem.Env) (s : Shared) (H : Hp) (E : XK), Room k (A.deeper (envOfC qual (defScope st) s.heap.objs.size f cdv)) →
      ∃ t, PSs (cxOf CX0 P w K mg base N qual (defScope st) f cdv A outer s H E).nox (defBody st) t ∧ ∀ ds d, R ds d → RunE (fun _ _ => True) t (startD N ds) { nx := fun _ => d = .none, rt := fun d' => d' = d }) : FnOk P w K mg base CX0 (k + 1) f fd ps (spR R) := by
  refine Fn.ok S (fun vs H Q E h => ?_) (fun cdv A outer s H vs Q E hr h => ?_)
  · obtain ⟨B, ds, d, _, ra, hR, _⟩ := h
    rw [RpAll.len ra]; exact len ds d hR
  · obtain ⟨B, ds, d, eb, ra, hR, q⟩ := h
    obtain ⟨t, p, run⟩ := body cdv A outer s H E hr
    refine ⟨t, p, run ds d hR H B B H _ _ trivial (.rfl' eb) (env_start ra) (fun L' B' H' σ' e g _ _ => ?_) (fun d' v B' H' e g r => ?_) (fun _ _ _ _ z => z.elim) (fun _ _ _ _ z => z.elim)⟩
    · have e : d = .none := e
      subst e
      exact q _ B' H' g .non
    · have e : d' = d := e
      subst e
      exact q _ B' H' g r
end
end K45
-- B4
set_option maxHeartbeats 2000000
/-! enumerate over a tuple -/
namespace K45
open PySem PySem.Spec PyProof.Rows L2
open Evl (Ex ex_rd ex_l ex_t)

theorem enum_new1 {v : Value} {ob : Obj} {Hh : Heap → Prop} (Bg : Begins v ob Hh) :
    Meets (Builtin.«enumerate.__new__» ⟨[.type "enumerate", v], []⟩) (fun _ R s => Hh s.heap ∧
      R (.ok (.ret (.ref (s.heap.push ob).objs.size))) { s with heap := (s.heap.push ob).push { cls := .type "enumerate", data := .fields #[.none, .bool false, .ref s.heap.objs.size, rawInt 0, .none, .none] } }) :=
  .of_wp fun prog w A R s hh => by
    obtain ⟨hp, g, d, tk, os⟩ := s
    obtain ⟨hb, hr⟩ := hh
    have sub := sub_enumerate
    have it1 : ∀ {A' : Around} {E : Value → Shared → Prop} {Q : Value → Shared → Prop}, Q (.ref hp.objs.size) ⟨hp.push ob, g, d, tk, os⟩ → wpAny (model prog w) A' (pyIter v) Q E ⟨hp, g, d, tk, os⟩ :=
      fun q => Bg.iter prog w _ _ ⟨hp, g, d, tk, os⟩ _ hb q
    wp_walk using it1
    refine wpAny_stack_any fun st => wpAny_pure ?_
    split
    · rename_i c _ _ _ _ _
      cases (c == Value.type "enumerate") <;> (wp_walk using it1; exact ⟨_, rfl, hr⟩)
    · wp_walk using it1
      exact ⟨_, rfl, hr⟩
section
variable {prog : Program} {w : World} {A : Around} {E : Value → Shared → Prop} {s : Shared}
theorem enum_call1 {v : Value} {ob : Obj} {Hh : Heap → Prop} {Q : Value → Shared → Prop} (Bg : Begins v ob Hh) (hb : Hh s.heap)
    (hq : ∀ h', IsEnum h' (s.heap.objs.size + 1) s.heap.objs.size 0 .none → h'.get? s.heap.objs.size = some ob → h'.objs.size = s.heap.objs.size + 2 →
      (∀ b o, s.heap.get? b = some o → h'.get? b = some o) → Q (.ref (s.heap.objs.size + 1)) { s with heap := h' }) :
    wpAny (model prog w) A (call (.type "enumerate") [v]) Q E s := by
  refine callType_new F.called_enumerate (by decide) (F.typeCall_enumerate_1 _) (F.newCall_enumerate_1 _) (fun obj => F.args_object_init_2 obj _) F.entry_enumerate_new (enum_new1 Bg) ⟨hb, ?_⟩
  have z : (s.heap.push ob).objs.size = s.heap.objs.size + 1 := Heap.size_push ..
  have e1 := Heap.get?_push_size (s.heap.push ob) (o := { cls := .type "enumerate", data := .fields #[.none, .bool false, .ref s.heap.objs.size, rawInt 0, .none, .none] }) rfl
  have e2 := Heap.get?_push_of_some (h := s.heap.push ob) { cls := .type "enumerate", data := .fields #[.none, .bool false, .ref s.heap.objs.size, rawInt 0, .none, .none] } (Heap.get?_push_size s.heap Bg.free)
  show _ ∧ _
  rw [z] at e1 ⊢
  exact ⟨⟨_, e1, rfl⟩, hq _ e1 e2 (by rw [Heap.size_push, z]) fun b o x => Heap.get?_push_of_some _ (Heap.get?_push_of_some _ x)⟩
end
/-- the tuple at a as it stands at each turn, each item in a new pair -/
def IteT (K : PySem.W.Frag) (a : Addr) : It :=
  ⟨fun i H => ∃ (xs : List V) (x : V), SqT K H a xs ∧ xs[i]? = some x, fun i H v H' => ∃ T x, v = .ref T ∧ H T = none ∧ H' = upd H T (.tup [.int (i : Nat), x]) ∧ ∀ xs, SqT K H a xs → xs[i]? = some x, fun i H => ∃ xs : List V, SqT K H a xs ∧ xs.length = i⟩
theorem turn_enumT {P : Program} {w : World} {K : PySem.W.Frag} {elts : List Expr} {kk : Nat} {tpos : Pos} (a e it : Addr) (hai : a ≠ it) (hea : e ≠ a) :
    Turn P w K (.Tuple elts kk tpos) (IteT K a) [e, it] e (fun i h => (∃ old, IsEnum h e it ((i : Nat) : Int) old) ∧ h.IsTupleIter it a i ∧ e ≠ it) where
  mem := by simp
  obj := fun i h st b hb => by
    obtain ⟨⟨old, he⟩, ⟨o, ho, hc, hd⟩, _⟩ := st
    have e' : b = e ∨ b = it := by simpa using hb
    rcases e' with z | z
    · rw [z]; exact ⟨_, he, fun v q => nomatch q⟩
    · rw [z]; exact ⟨o, ho, fun v q => by rw [hd] at q; cases q⟩
  keep := fun i h h' st k => let ⟨⟨old, he⟩, ⟨o, ho, r⟩, hne⟩ := st; ⟨⟨old, k e (by simp) _ he⟩, ⟨o, k it (by simp) _ ho, r⟩, hne⟩
  item := by
    intro X hP hw hK hc i pins s σ H E I hf st hg
    subst hP hw hK
    obtain ⟨⟨old, he⟩, hit, hne⟩ := st
    obtain ⟨xs, x, hq, hx⟩ := hg
    obtain ⟨its, rv, p, hz⟩ := I.tuple hq
    obtain ⟨u, hu, ru⟩ := rv.get hx
    have hel : e < s.heap.objs.size := Heap.lt_size he
    have hil : it < s.heap.objs.size := by obtain ⟨_, q, _⟩ := hit; exact Heap.lt_size q
    have D := Draws.tuple (prog := X.prog) (w := X.w) (A := X.A.in1) (I.ok.hd hc) it a hai its.toArray
    have hlt : i < its.toArray.size := by
      have := (List.getElem?_eq_some_iff.mp hu).1
      simpa using this
    refine wpAny_pyNext_enum_itemC D he ⟨hit, p⟩ hlt hne (by simp [hne, hea]) fun y h' tk hy ho hst hT hsz hk => ?_
    have ey : y = u := by
      have h1 : its.toArray[i]? = some y := hy
      have h2 : its.toArray[i]? = some u := by simpa using hu
      rw [h1] at h2; exact Option.some.inj h2
    subst ey
    refine ⟨_, rfl, wpAny_letOwnedTupleGo_enum (s := { s with heap := h', toks := tk + 1 }) ho fun h'' he' sb => ?_⟩
    have hT2 : h''.get? s.heap.objs.size = some { cls := .type "tuple", data := .seq #[.int i tk, y] } := (sb.2 _ (Nat.ne_of_gt hel)).trans hT
    have new : ObjOk X.prog X.w (upd H s.heap.objs.size (.tup [.int (i : Nat), x])) h'' s.heap.objs.size (.tup [.int (i : Nat), x]) :=
      ⟨by show 2 ≤ sizeLine; decide, [.int i tk, y], .cons ⟨_, rfl⟩ (.cons ru .nil), ⟨_, hT2, rfl, _, rfl⟩⟩
    have I1 : Inv X pins σ (upd H s.heap.objs.size (.tup [.int (i : Nat), x])) { s with heap := h'', toks := tk + 1 } :=
      I.turnedNew (ch := [e, it]) (fun b ob hb q => (sb.2 b (fun z => hb (by simp [z]))).trans (hk b ob (fun z => hb (by simp [z])) (fun z => hb (by simp [z])) q)) hf (Nat.le_refl _) new
    refine ⟨.ref s.heap.objs.size, _, I1, rfl, ⟨_, x, rfl, I.hok.fresh (Nat.le_refl _), rfl, fun ys hy => by rw [I.tuple_inj hy hq]; exact hx⟩, ⟨⟨y, ?_⟩, ?_, hne⟩, fun b hb => ?_⟩
    · have e1 : ((i + 1 : Nat) : Int) = (i : Int) + 1 := by omega
      rw [e1]; exact he'
    · obtain ⟨o, q1, q2⟩ := hst.1
      exact ⟨o, (sb.2 it (Ne.symm hne)).trans q1, q2⟩
    · have hb' : b < s.heap.objs.size := by
        have e' : b = e ∨ b = it := by simpa using hb
        rcases e' with z | z
        · rw [z]; exact hel
        · rw [z]; exact hil
      rw [upd_ne (Nat.ne_of_lt hb')]
      exact (hf b hb).1
  done := by
    intro X hP hw hK hc i pins s σ H E I hf st hg
    subst hP hw hK
    obtain ⟨⟨old, he⟩, hit, hne⟩ := st
    obtain ⟨xs, hq, hx⟩ := hg
    obtain ⟨its, rv, p, hz⟩ := I.tuple hq
    have hl := rv.length
    obtain ⟨f0, f1, f2, f3, f4, f5⟩ := hf it (by simp)
    have D := Draws.tuple (prog := X.prog) (w := X.w) (A := X.A.in1) (I.ok.hd hc) it a hai its.toArray
    have hn : its.toArray.size = i := by simp; omega
    exact wpAny_pyNext_enum_endD D he (by rw [hn]; exact ⟨hit, p⟩) fun h' eb => ⟨rfl, I.turned (t' := s.toks) (fun b o hb q => eb b o hb q) f0 f1 f3 f4 f5⟩
  self := fun A i s Q E st h => let ⟨⟨_, he⟩, _⟩ := st; wpAny_pyIter_enum he h
theorem walk_enumT {K : PySem.W.Frag} {a : Addr} {xs : List V} : Walk (IteT K a) xs.length (fun H => SqT K H a xs) (YPair (fun i => some (.int (i : Nat))) (fun i => xs[i]?)) := by
  refine ⟨fun i _ hi q => ⟨xs, xs[i], q, by simp [hi]⟩, fun _ q => ⟨xs, q, rfl⟩, fun i H v H' _ q y => ?_⟩
  obtain ⟨T, x, h1, h2, h3, h4⟩ := y
  exact ⟨T, .int (i : Nat), x, h1, h2, h3, rfl, h4 xs q⟩
/-- enumerate of a list or a tuple -/
def iEnumU (K : PySem.W.Frag) (ta : TA) : TI := fun σ H R => ta σ H fun vs H1 => ∃ a xs, vs = [.ref a] ∧ ((SqL K H1 a xs ∧ R (Ite K a) H1) ∨ (SqT K H1 a xs ∧ R (IteT K a) H1))
theorem pi_enumU {X : Cx} {e : Expr} {ta : TA} {p pos tpos : Pos} {elts : List Expr} {kk : Nat} (hg : Gl X "enumerate") (hm : X.mg "enumerate" = none) (ha : PA X [e] ta) (hs : starEach [e] X.env = [(false, eval e X.env)] := by rfl) :
    PI X (.Tuple elts kk tpos) (.Call (.Name "enumerate" p) [e] [] pos) (iEnumU X.K ta) := by
  refine ⟨fun pins s σ H R I h => ?_⟩
  refine Call_ (ld_blt I hg hm boot_enumerate (PyProof.Rows.callWith_type1 (thn (ha.run pos pins s σ H _ I h) fun us s1 ⟨vs, H1, I1, r1, q1⟩ => ?_) hs rfl))
  obtain ⟨a, xs, ex, q⟩ := q1
  subst ex
  cases r1 with
  | cons r rr =>
    cases rr
    cases r
    have fin : ∀ {h' : Heap}, (∀ b o, s1.heap.get? b = some o → h'.get? b = some o) → Inv X pins σ H1 { s1 with heap := h' } ∧ ∀ b ∈ [s1.heap.objs.size + 1, s1.heap.objs.size], FpOk X pins H1 b := fun {h'} hk => by
      refine ⟨I1.kept (t' := s1.toks) hk, fun b hb => ?_⟩
      have e' : b = s1.heap.objs.size + 1 ∨ b = s1.heap.objs.size := by simpa using hb
      have hle : s1.heap.objs.size ≤ b := by
        rcases e' with z | z
        · rw [z]; exact Nat.le_add_right _ _
        · rw [z]; exact Nat.le_refl _
      exact I1.fpOk hle (I1.hok.fresh hle)
    rcases q with ⟨hq, q⟩ | ⟨hq, q⟩
    · obtain ⟨its, rv, p', hz⟩ := I1.list hq
      refine call_enumerate_list p'.isList fun h' he hit hsz hk => wpAny_pyIter_enum he ?_
      obtain ⟨I2, fp⟩ := fin hk
      exact ⟨s1.heap.objs.size + 1, [s1.heap.objs.size + 1, s1.heap.objs.size], _, _, H1, rfl, I2, turn_enum a (s1.heap.objs.size + 1) s1.heap.objs.size, ⟨⟨.none, he⟩, hit, Nat.succ_ne_self _⟩, fp, q⟩
    · obtain ⟨its, rv, p', hz⟩ := I1.tuple hq
      have hal : a < s1.heap.objs.size := by obtain ⟨o, ho, _⟩ := p'; exact Heap.lt_size ho
      refine enum_call1 (begins_tuple a its.toArray) p' fun h' he hit hsz hk => wpAny_pyIter_enum he ?_
      obtain ⟨I2, fp⟩ := fin hk
      exact ⟨s1.heap.objs.size + 1, [s1.heap.objs.size + 1, s1.heap.objs.size], _, _, H1, rfl, I2, turn_enumT a (s1.heap.objs.size + 1) s1.heap.objs.size (Nat.ne_of_lt hal) (Nat.ne_of_gt (Nat.lt_succ_of_lt hal)), ⟨⟨.none, he⟩, ⟨_, hit, rfl, rfl⟩, Nat.succ_ne_self _⟩, fp, q⟩
theorem it_enumU {K : PySem.W.Frag} {F : Fx} {L : List Sl} {tr : TA} {ds : List PyData} {s : Sl} (h : EvA F tr L [s]) (hs : s = .d (.list ds) ∨ s = .d (.tuple ds)) : IterE F (iEnumU K tr) L (enumD ds) := fun H0 B0 B H σ f g E R q =>
  h H0 B0 B H σ f g E _ fun vs B1 H1 g1 oo => by
    obtain ⟨v, rfl, o1⟩ := ok1 oo
    rcases hs with rfl | rfl
    · obtain ⟨a, vs, rfl, ea, ra⟩ := dp_lst o1
      have ln := RpAll.len ra
      refine ⟨a, vs, rfl, .inl ⟨SqL.of (g1.bh _ _ ea), q _ B1 H1 g1 ?_⟩⟩
      have hl : (enumD ds).length = vs.length := by rw [enumD_len, ln]
      refine ⟨_, _, hl.symm ▸ walk_enum (K := K) (a := a) (xs := vs), fun B' H e e' => SqL.of (e' _ _ (e _ _ ea)), fun i H x H' B' e e' hi y => ?_⟩
      obtain ⟨T, x1, y1, rfl, hT, eH, h1, h2⟩ := y
      have h1 : x1 = .int (i : Nat) := (Option.some.inj h1).symm
      subst h1
      obtain ⟨d, hd, rd⟩ := RpAll.get' ra h2
      obtain ⟨B'', gg, rr⟩ := pair_walk e e' hT eH (.int (i : Nat)) rd
      exact ⟨B'', _, gg, enumD_get hd, rr⟩
    · obtain ⟨a, vs, rfl, ea, ra⟩ := dp_tup o1
      have ln := RpAll.len ra
      refine ⟨a, vs, rfl, .inr ⟨SqT.of (g1.bh _ _ ea), q _ B1 H1 g1 ?_⟩⟩
      have hl : (enumD ds).length = vs.length := by rw [enumD_len, ln]
      refine ⟨_, _, hl.symm ▸ walk_enumT (K := K) (a := a) (xs := vs), fun B' H e e' => SqT.of (e' _ _ (e _ _ ea)), fun i H x H' B' e e' hi y => ?_⟩
      obtain ⟨T, x1, y1, rfl, hT, eH, h1, h2⟩ := y
      have h1 : x1 = .int (i : Nat) := (Option.some.inj h1).symm
      subst h1
      obtain ⟨d, hd, rd⟩ := RpAll.get' ra h2
      obtain ⟨B'', gg, rr⟩ := pair_walk e e' hT eH (.int (i : Nat)) rd
      exact ⟨B'', _, gg, enumD_get hd, rr⟩
end K45
-- B5
set_option maxHeartbeats 2000000
/-! sum, max, sorted over tuples; sorted pairs; int(text) -/
namespace K45
open PySem PySem.Spec PyProof.Rows L2
open Evl (Ex ex_rd ex_l ex_t)
section
variable {prog : Program} {w : World} {A : Around} {E : Value → Shared → Prop} {s : Shared}
theorem max_tupInts {l : Addr} {xs : Array (Int × Tok)} {Q : Value → Shared → Prop} (hh : A.handled = none) (hl : s.heap.IsTuple l (intItems xs)) (hne : 0 < xs.size)
    (h : ∀ v h' tk, (intItems xs)[argBest (fun i j => decide (numAt xs i > numAt xs j)) (xs.size - 1)]? = some v → (∀ b o, s.heap.get? b = some o → h'.get? b = some o) → Q v { s with heap := h', toks := tk }) :
    wpAny (model prog w) A (call (.builtin "max") [.ref l]) Q E s := by
  have hlt : l < s.heap.objs.size := by obtain ⟨_, e, _⟩ := hl; exact Heap.lt_size e
  refine call_max_walk (wpAny_pyIter_tuple hl ?_)
  refine ⟨_, _, _, _, _, _, _, rfl, Walks.tuple (A := A.in1) hh s.heap.objs.size l (Nat.ne_of_lt hlt) (intItems xs), ⟨⟨_, Heap.get?_push_size _ rfl, rfl, rfl⟩, hl.at fun o e => Heap.get?_push_of_some _ e⟩, fun b hb => ?_, by simpa [intItems] using hne, CmpOf.ints_gt (numAt xs) (fun _ _ => intItems_at), fun v h' tk hP hk => ?_⟩
  · show b < (s.heap.push _).objs.size
    rw [Heap.size_push]
    have e' : b = s.heap.objs.size ∨ b = l := by simpa using hb
    rcases e' with z | z
    · rw [z]; exact Nat.lt_succ_self _
    · rw [z]; exact Nat.lt_succ_of_lt hlt
  · refine h v h' tk (by simpa [intItems] using hP) fun b o e => hk b o (fun hm => ?_) (Heap.get?_push_of_some _ e)
    have z : b = s.heap.objs.size := by simpa using hm
    rw [z] at e
    exact absurd (Heap.lt_size e) (Nat.lt_irrefl _)
theorem sum_tupRaw {t : Addr} {its : List Value} {ns : List Int} {Q : Value → Shared → Prop} (hh : A.handled = none) (hl : s.heap.IsTuple t its.toArray) (hi : IntsAre its ns)
    (h : ∀ h' tk t', (∀ b o, s.heap.get? b = some o → h'.get? b = some o) → Q (.int ns.sum t') { s with heap := h', toks := tk }) : wpAny (model prog w) A (call (.builtin "sum") [.ref t]) Q E s := by
  obtain ⟨xs, hx⟩ := hi.allInts.items
  have hn : numsOf its.toArray.toList = ns := by rw [show its.toArray.toList = its from rfl, hi.numsOf]
  rw [hx] at hl hn
  rw [nums_intItems] at hn
  refine PySem.W.ktm_sumG hh hl fun h' tk t' hk => ?_
  have := h h' tk t' hk
  rw [preSum_eq, List.take_of_length_le (by simp), hn]
  exact this
theorem max_tupRaw {l : Addr} {its : List Value} {ns : List Int} {Q : Value → Shared → Prop} (hh : A.handled = none) (hl : s.heap.IsTuple l its.toArray) (hi : IntsAre its ns) (hne : 0 < ns.length)
    (h : ∀ h' tk M t', (∀ b o, s.heap.get? b = some o → h'.get? b = some o) → M ∈ ns → (∀ a, a ∈ ns → a ≤ M) → Q (.int M t') { s with heap := h', toks := tk }) : wpAny (model prog w) A (call (.builtin "max") [.ref l]) Q E s := by
  obtain ⟨xs, e⟩ := hi.allInts.items
  have hn : numsOf (intItems xs).toList = ns := by rw [← e]; exact hi.numsOf
  rw [nums_intItems] at hn
  subst hn
  rw [e] at hl
  have hsz : 0 < xs.size := by simpa using hne
  refine max_tupInts hh hl hsz fun v h' tk hv hk => ?_
  obtain ⟨t, rfl⟩ := intItems_at hv
  obtain ⟨h1, h2⟩ := argBest_gt (numAt xs) (xs.size - 1)
  refine h h' tk _ t hk ?_ fun a ha => ?_
  · rw [numAt_eq]; exact PySem.getD_mem (by rw [List.length_map, Array.length_toList]; omega)
  · obtain ⟨j, hj, rfl⟩ := mem_getD ha
    rw [List.length_map, Array.length_toList] at hj
    rw [← numAt_eq]; exact h2 j (by omega)
/-- what a tuple holds, collected: the heap has one thing more -/
theorem collectTup {Q : List Value → Shared → Prop} {t : Addr} {its : List Value} (hl : s.heap.IsTuple t its.toArray) (hz : its.length ≤ sizeLine)
    (q : ∀ h', (∀ b o', s.heap.get? b = some o' → h'.get? b = some o') → h'.objs.size = s.heap.objs.size + 1 → Q its { s with heap := h' }) : wpAny (model prog w) A (collect (.ref t)) Q E s := by
  obtain ⟨o, ho, hc, n, hd⟩ := id hl
  let H1 : Heap := s.heap.push { cls := .type "list", data := .seq ([] : List Value).toArray }
  let H2 : Heap := H1.update s.heap.objs.size (Obj.mapSeq (· ++ its.toArray))
  have g1 : H1.get? s.heap.objs.size = some { cls := .type "list", data := .seq #[] 0 } := Heap.get?_push_size _ rfl
  have g2 := Heap.get?_update_self (Obj.mapSeq (· ++ its.toArray)) g1 rfl
  have z2 : H2.objs.size = s.heap.objs.size + 1 := (Heap.size_update ..).trans (Heap.size_push ..)
  have old : ∀ b o', s.heap.get? b = some o' → H2.get? b = some o' := fun b o' hb =>
    (Heap.get?_update_other _ _ (Nat.ne_of_gt (Heap.lt_size hb))).trans (Heap.get?_push_of_some _ hb)
  have last : wpAny (model prog w) A (do
      match (← load s.heap.objs.size).data with
        | Data.seq xs _ => pure xs.toList
        | _ => unsupported "internal:collect") Q E { s with heap := H2 } := by
    refine wpAny_bind (wpAny_load g2 (wpAny_pure ?_))
    show Q ((#[] : Array Value) ++ its.toArray).toList _
    rw [show ((#[] : Array Value) ++ its.toArray).toList = its by simp]
    exact q H2 old z2
  unfold collect
  refine wpAny_bind (wpAny_runValue (codeAny_builtin F.entry_proto_collect ?_))
  rw [Around.under_plainId F.plain_proto_collect _]
  refine wpAny_bind (m := newList []) (wpAny_newObj_type (wpAny_pure ⟨plainId_quiet F.plain_list_iadd _, codeAny_builtin F.entry_list_iadd ?_⟩))
  rw [Around.under_plainId F.plain_list_iadd _]
  refine wpAny_mono (wpAny_extend_seq (hsz := by simpa using hz) (A := A) (R := fun r s' => r = .ok (.ret (.ref s.heap.objs.size)) ∧ s' = { s with heap := H2 }) (s := { s with heap := H1 }) _ t _ 0 (.inr rfl) g1 (Heap.get?_push_of_some _ ho) hc hd ⟨rfl, rfl⟩) (fun fin s' h => ?_) fun e s' h => absurd h.1 (by simp)
  cases fin with
  | done f =>
    obtain ⟨e, rfl⟩ := h
    cases e
    exact last
  | again c' => exact ⟨h.1, codeAny_mono h.2 fun r s'' hr => by obtain ⟨rfl, rfl⟩ := hr; exact last⟩
/-- sorted of a tuple of ints -/
theorem sorted_tupRaw {t : Addr} {its : List Value} {ns : List Int} {Q : Value → Shared → Prop} (hl : s.heap.IsTuple t its.toArray) (hi : IntsAre its ns) (hz : its.length ≤ sizeLine)
    (h : ∀ (out : List Value) (ns' : List Int) h' d, IntsAre out ns' → ns'.Perm ns → ns'.Pairwise (· ≤ ·) → (∀ b o, s.heap.get? b = some o → h'.get? b = some o) → s.heap.objs.size ≤ d → (∃ n, h'.get? d = some (seqObj "list" out.toArray n)) → Q (.ref d) { s with heap := h' }) :
    wpAny (model prog w) A (call (.builtin "sorted") [.ref t]) Q E s := by
  obtain ⟨o, ho, hc, n, hd⟩ := id hl
  refine Calls.call_function_entry kind_sorted plain_sorted entry_sorted (args_sorted1 _) ?_
  unfold Builtin.«sorted»
  refine wpAny_bind (m := checkCount "sorted" 1 1 _) (wpAny_pure ?_)
  refine wpAny_bind (collectTup hl hz fun h1 hk hk1 => ?_)
  refine wpAny_bind (wpAny_newList ?_ (by simpa using hz))
  have hoL : (h1.push (seqObj "list" its.toArray 0)).get? h1.objs.size = some (seqObj "list" its.toArray 0) := Heap.get?_push_size _ rfl
  refine wpAny_bind (wpAny_holding (wpAny_call_entry slot_list_sort ⟨_, hoL, rfl⟩ entry_list_sort (SrtO.list_sort_ord SrtO.swo_int hoL hz (fun h2 => SrtO.ints_sortable hi h2) fun out hs hb => ⟨_, rfl, ?_⟩) (args_list_sort _)))
  obtain ⟨k1, k2, k3⟩ := SrtO.ints_out hi hs hb
  obtain ⟨ep, he'⟩ := PyProof.Rows.sortedHeap_at (vs := its) (out := out.toArray) hoL
  refine wpAny_pure ⟨_, rfl, h out _ _ _ k1 k2 k3 (fun b ob e => ?_) ?_ ⟨_, he'⟩⟩
  · have hlt : b < h1.objs.size := Heap.lt_size (hk _ _ e)
    have e2 := Heap.get?_push_of_some (seqObj "list" its.toArray 0) (hk _ _ e)
    rw [PyProof.Rows.sortedHeap_old (Nat.ne_of_lt hlt) (Heap.lt_size e2)]
    exact e2
  · rw [hk1]; exact Nat.le_succ _
end
/-! ### the rules by values -/
section
variable {X : Cx}
def rSumU (K : PySem.W.Frag) : List V → Hp → VK → Prop := fun vs H Q => ∃ (a : Addr) (ns : List Int), vs = [V.ref a] ∧ (SqL K H a (ns.map V.int) ∨ SqT K H a (ns.map V.int)) ∧ Q (.int ns.sum) H
theorem call_sumU (hc : X.calm = true) : CallR X (.builtin "sum") (rSumU X.K) := by
  rintro pins s σ H vs us Q I r ⟨a, ns, rfl, hs | hs, q⟩
  · exact cr_sum hc pins s σ H _ us Q I r ⟨a, ns, rfl, hs, q⟩
  · obtain ⟨its, rv, hl, _⟩ := I.tuple hs
    rw [Vals.ref1 r]
    exact sum_tupRaw (I.ok.hd hc) hl rv.ints fun h' tk t' hk => ⟨.int _, H, I.kept hk, ⟨_, rfl⟩, q⟩
def rMaxT (K : PySem.W.Frag) : List V → Hp → VK → Prop := fun vs H Q => ∃ (a : Addr) (ns : List Int), vs = [V.ref a] ∧ SqT K H a (ns.map V.int) ∧ 0 < ns.length ∧ ∀ m, m ∈ ns → (∀ y, y ∈ ns → y ≤ m) → Q (.int m) H
theorem call_maxT (hc : X.calm = true) : CallR X (.builtin "max") (rMaxT X.K) := by
  rintro pins s σ H vs us Q I r ⟨a, ns, rfl, hs, hne, q⟩
  obtain ⟨its, rv, hl, _⟩ := I.tuple hs
  rw [Vals.ref1 r]
  exact max_tupRaw (I.ok.hd hc) hl rv.ints hne fun h' tk m t' hk h1 h2 => ⟨.int _, H, I.kept hk, ⟨_, rfl⟩, q m h1 h2⟩
def rSortT (K : PySem.W.Frag) : List V → Hp → VK → Prop := fun vs H Q => ∃ (a : Addr) (ns : List Int), vs = [V.ref a] ∧ SqT K H a (ns.map V.int) ∧
  ∀ (ms : List Int) (p : Addr), ms.Perm ns → ms.Pairwise (· ≤ ·) → H p = none → Q (.ref p) (upd H p (.lst (ms.map V.int)))
theorem call_sortT : CallR X (.builtin "sorted") (rSortT X.K) := by
  rintro pins s σ H vs us Q I r ⟨a, ns, rfl, hs, q⟩
  obtain ⟨its, rv, hl, hz⟩ := I.tuple hs
  rw [Vals.ref1 r]
  refine sorted_tupRaw hl rv.ints (by rw [← rv.length]; exact hz) fun out ms h' d k1 k2 k3 hk hd hL => ?_
  obtain ⟨n, hn⟩ := hL
  refine ⟨.ref d, upd H d (.lst (ms.map V.int)), I.laid (t' := s.toks) hk hd ⟨?_, out, n, vals_of_ints k1, hn⟩, rfl, q _ _ k2 k3 (I.hok.fresh hd)⟩
  rw [List.length_map, k2.length_eq]
  rw [List.length_map] at hz
  exact hz
def rSortU (K : PySem.W.Frag) : List V → Hp → VK → Prop := fun xs H Q => rSortedI K xs H Q ∨ rSortT K xs H Q ∨ rSortedPO K xs H Q
theorem call_sortU : CallR X (.builtin "sorted") (rSortU X.K) := CallR.or cr_sortedI (CallR.or call_sortT cr_sortedPO)
def rIntU : List V → Hp → VK → Prop := fun xs H Q => ((∃ i, xs = [.int i] ∧ Q (.int i) H) ∨ ∃ k, xs = [.bl k] ∧ Q (.int (if k then 1 else 0)) H) ∨ (∃ a n, xs = [.str a] ∧ PySem.intText? a = some n ∧ a.length ≤ 640 ∧ Q (.int n) H)
theorem call_intU : CallR X (.type "int") rIntU := CallR.or call_int1 call_int_str
end
/-! ### .. over data -/
section
variable {K : PySem.W.Frag} {F : Fx} {L : List Sl} {s : Sl} {b : Bool} {tr : TA}
theorem c_sumU {ns : List Int} (h : EvA F tr L [s]) (hs : s.data = some (.list (ns.map PyData.int)) ∨ s = .d (.tuple (ns.map PyData.int))) : EvE F (tCB (rSumU K) tr) L (.d (.int ns.sum)) :=
  c_of h fun H0 B H vs Q e oo q => by
    obtain ⟨v, rfl, o⟩ := ok1 oo
    rcases hs with hs | rfl
    · obtain ⟨a, ws, rfl, ea, ra⟩ := o.lst e hs
      have z := RpAll.ints ra
      subst z
      exact ⟨a, ns, rfl, .inl (SqL.of ea), q _ B H (.rfl' e) (.int _)⟩
    · obtain ⟨a, ws, rfl, ea, ra⟩ := dp_tup o
      have z := RpAll.ints ra
      subst z
      exact ⟨a, ns, rfl, .inr (SqT.of (e _ _ ea)), q _ B H (.rfl' e) (.int _)⟩
theorem c_maxT {ns : List Int} {m : Int} (h : EvA F tr L [.d (.tuple (ns.map PyData.int))]) (hne : 0 < ns.length) (hm : m ∈ ns) (hu : ∀ y ∈ ns, y ≤ m) : EvE F (tCB (rMaxT K) tr) L (.d (.int m)) :=
  c_of h fun H0 B H vs Q e oo q => by
    obtain ⟨v, rfl, o⟩ := ok1 oo
    obtain ⟨a, ws, rfl, ea, ra⟩ := dp_tup o
    have z := RpAll.ints ra
    subst z
    refine ⟨a, ns, rfl, SqT.of (e _ _ ea), hne, fun m' h1 h2 => ?_⟩
    have e' : m' = m := Int.le_antisymm (hu m' h1) (h2 m hm)
    subst e'
    exact q _ B H (.rfl' e) (.int _)
theorem m_sortU {ns ms : List Int} (h : EvA F tr L [s]) (hs : s.data = some (.list (ns.map PyData.int)) ∨ s = .d (.tuple (ns.map PyData.int))) (hm : ∀ ms' : List Int, ms'.Perm ns → ms'.Pairwise (· ≤ ·) → ms' = ms) : EvM F (tCB (rSortU K) tr) L (ms.map PyData.int) :=
  m_of h fun H0 B H vs Q e oo q => by
    obtain ⟨v, rfl, o⟩ := ok1 oo
    rcases hs with hs | rfl
    · obtain ⟨a, ws, rfl, ea, ra⟩ := o.lst e hs
      have z := RpAll.ints ra
      subst z
      exact .inl ⟨a, ns, rfl, SqL.of ea, fun ns' p h1 h2 hp => by
        have e1 := hm ns' h1 h2
        subst e1
        exact q p _ hp (RpAll.of_ints _)⟩
    · obtain ⟨a, ws, rfl, ea, ra⟩ := dp_tup o
      have z := RpAll.ints ra
      subst z
      exact .inr (.inl ⟨a, ns, rfl, SqT.of (e _ _ ea), fun ns' p h1 h2 hp => by
        have e1 := hm ns' h1 h2
        subst e1
        exact q p _ hp (RpAll.of_ints _)⟩)
def pairD (p : Int × Int) : PyData := .tuple [.int p.1, .int p.2]
/-- some key of the values that stand for pairs -/
theorem pair_key {B : Hp} : ∀ {vs : List V} {ps : List (Int × Int)}, RpAll B vs (ps.map pairD) → ∃ k : V → Int × Int, (∀ v ∈ vs, ∃ t, v = V.ref t ∧ B t = some (.tup [.int (k v).1, .int (k v).2])) ∧ vs.map k = ps := by
  intro vs ps h
  refine ⟨fun v => match v with
    | .ref t => match B t with
      | some (.tup [.int i, .int j]) => (i, j)
      | _ => (0, 0)
    | _ => (0, 0), ?_, ?_⟩
  all_goals
    induction ps generalizing vs with
    | nil => cases h; simp
    | cons p ps ih =>
      cases h with
      | cons a t =>
        obtain ⟨a', ws, rfl, ea, ra⟩ := dp_tup a
        cases ra with
        | cons r1 r2 =>
          cases r2 with
          | cons r2 r3 =>
            cases r3
            cases r1
            cases r2
            have I := ih t
            simp only [List.map_cons, List.mem_cons, List.cons.injEq, forall_eq_or_imp, V.ref.injEq, exists_eq_left', ea]
            exact ⟨by simp [ea], I⟩
theorem rp_map_pairs {B : Hp} {k : V → Int × Int} : ∀ {ys : List V}, (∀ v ∈ ys, ∃ t, v = V.ref t ∧ B t = some (.tup [.int (k v).1, .int (k v).2])) → RpAll B ys ((ys.map k).map pairD)
  | [], _ => .nil
  | y :: ys, h => by
    obtain ⟨t, e, q⟩ := h y List.mem_cons_self
    refine .cons ?_ (rp_map_pairs fun v hv => h v (List.mem_cons_of_mem _ hv))
    subst e
    exact .tup q (.cons (.int _) (.cons (.int _) .nil))
theorem m_sortP {ps qs : List (Int × Int)} (h : EvA F tr L [s]) (hs : s.data = some (.list (ps.map pairD))) (hm : ∀ ms : List (Int × Int), ms.Perm ps → SrtO.Srtd SrtO.lexB ms → ms = qs) : EvM F (tCB (rSortU K) tr) L (qs.map pairD) :=
  m_of h fun H0 B H vs Q e oo q => by
    obtain ⟨v, rfl, o⟩ := ok1 oo
    obtain ⟨a, ws, rfl, ea, ra⟩ := o.lst e hs
    obtain ⟨k, hk, ek⟩ := pair_key ra
    refine .inr (.inr ⟨a, ws, k, rfl, SqL.of ea, fun x hx => ?_, fun ys p h1 h2 hp => ?_⟩)
    · obtain ⟨t, e1, e2⟩ := hk x hx
      exact ⟨t, e1, e _ _ e2⟩
    · have e1 := hm (ys.map k) (by rw [← ek]; exact h2.perm.map k) (SrtO.srtd_map h1)
      rw [← e1] at q
      exact q p ys hp (rp_map_pairs fun v hv => hk v (h2.perm.mem_iff.mp hv))
theorem c_intI {i : Int} (h : EvA F tr L [.d (.int i)]) : EvE F (tCB rIntU tr) L (.d (.int i)) :=
  c_of h fun H0 B H vs Q e oo q => by
    obtain ⟨v, rfl, o⟩ := ok1 oo
    exact .inl (.inl ⟨i, by rw [dp_int o], q _ B H (.rfl' e) (.int _)⟩)
theorem c_intB (h : EvA F tr L [.d (.bool b)]) : EvE F (tCB rIntU tr) L (.d (.int (if b then 1 else 0))) :=
  c_of h fun H0 B H vs Q e oo q => by
    obtain ⟨v, rfl, o⟩ := ok1 oo
    exact .inl (.inr ⟨b, by rw [dp_bl o], q _ B H (.rfl' e) (.int _)⟩)
theorem c_intS {x : Str} {n : Int} (h : EvA F tr L [.d (.str x)]) (hn : PySem.intText? x = some n) (hl : x.length ≤ 640) : EvE F (tCB rIntU tr) L (.d (.int n)) :=
  c_of h fun H0 B H vs Q e oo q => by
    obtain ⟨v, rfl, o⟩ := ok1 oo
    exact .inr ⟨x, n, by rw [dp_str o], hn, hl, q _ B H (.rfl' e) (.int _)⟩
end
end K45
-- B6
set_option maxHeartbeats 2000000
/-! the program's names; the rules by them -/
namespace K45
open PySem PySem.Spec PyProof.Rows L2
open Evl (Ex ex_rd ex_l ex_t)
/-- the i-th statement of the text -/
abbrev top (i : Nat) : Stmt := PySem.Challenge.pw_roadbikes_k45_whole_trips_read.main.body.getD i (.Pass ⟨0, 0, 0, 0⟩)
abbrev IntG (mg : Str → Option Value) (x : Str) (n : Int) : Prop := ∃ t, mg x = some (.int n t)
abbrev StrG (mg : Str → Option Value) (x : Str) (z : Str) : Prop := ∃ t, mg x = some (.str z t)
/-- what the module's names stand for -/
structure Gs (K : PySem.W.Frag) (mg : Str → Option Value) : Prop where
  len : mg "len" = none
  tuple : mg "tuple" = none
  list : mg "list" = none
  int : mg "int" = none
  bool : mg "bool" = none
  str : mg "str" = none
  isinstance : mg "isinstance" = none
  all : mg "all" = none
  sum : mg "sum" = none
  abs : mg "abs" = none
  max : mg "max" = none
  min : mg "min" = none
  sorted : mg "sorted" = none
  repr : mg "repr" = none
  enumerate : mg "enumerate" = none
  zip : mg "zip" = none
  range : mg "range" = none
  MAX_TICKS : IntG mg "MAX_TICKS" 1000
  MAX_STAGES : IntG mg "MAX_STAGES" 12
  MAX_BIKES : IntG mg "MAX_BIKES" 12
  MAX_PEOPLE : IntG mg "MAX_PEOPLE" 10
  MAX_START : IntG mg "MAX_START" 1000000
  MAX_EDITS : IntG mg "MAX_EDITS" 60
  LONGEST : IntG mg "LONGEST" 8
  MANY_WORDS : IntG mg "MANY_WORDS" 4
  FIGURES : StrG mg "FIGURES" "0123456789"
  COMMA : StrG mg "COMMA" ","
  SLASH : StrG mg "SLASH" "/"
  MIDDLE : StrG mg "MIDDLE" "from"
section
variable {X : Cx} {x : Str} {p pos tpos : Pos} {e e2 : Expr} {es elts : List Expr} {t : TA} {kk : Nat}
theorem u_gint {n : Int} (h : IntG X.mg x n) (hg : Gl X x := by rfl) (hd : (x == ("__debug__" : Str)) = false := by decide) : PE X (.Name x pos) (tC (.int n)) := by
  obtain ⟨t, h⟩ := h
  exact pe_glob hg h ⟨_, rfl⟩ hd
theorem u_gstr {z : Str} (h : StrG X.mg x z) (hg : Gl X x := by rfl) (hd : (x == ("__debug__" : Str)) = false := by decide) : PE X (.Name x pos) (tC (.str z)) := by
  obtain ⟨t, h⟩ := h
  exact pe_glob hg h ⟨_, rfl⟩ hd
theorem u_ty (n : String) (h : X.mg x = none) (hg : Gl X x := by rfl) (hv : bootBuiltins x = some (.type n) := by decide +kernel) (hn : x ≠ "__name__" := by decide) (hd : (x == ("__debug__" : Str)) = false := by decide) : PE X (.Name x pos) (tC (.ty n)) :=
  pe_bltn hg h hv rfl hn hd
variable {K : PySem.W.Frag} (G : Gs K X.mg)
include G
theorem u_tint (hg : Gl X "int" := by rfl) : PE X (.Name "int" pos) (tC (.ty "int")) := u_ty "int" G.int hg
theorem u_tbool (hg : Gl X "bool" := by rfl) : PE X (.Name "bool" pos) (tC (.ty "bool")) := u_ty "bool" G.bool hg
theorem u_ttuple (hg : Gl X "tuple" := by rfl) : PE X (.Name "tuple" pos) (tC (.ty "tuple")) := u_ty "tuple" G.tuple hg
theorem u_tlist (hg : Gl X "list" := by rfl) : PE X (.Name "list" pos) (tC (.ty "list")) := u_ty "list" G.list hg
theorem u_tstr (hg : Gl X "str" := by rfl) : PE X (.Name "str" pos) (tC (.ty "str")) := u_ty "str" G.str hg
theorem u_len (ha : PA X (e :: es) t) (hg : Gl X "len" := by rfl) (hK : X.K = K := by rfl) (he : starEach (e :: es) X.env = (false, eval e X.env) :: starEach es X.env := by rfl) (hpl : (backTo pos (starEach es X.env)).any (·.1) = false := by rfl) : PE X (.Call (.Name "len" p) (e :: es) [] pos) (tCB (rLenU K) t) := by
  subst hK
  exact pe_callB call_lenU hg G.len boot_len ha (by decide) (by decide) he hpl
theorem u_tuple (ha : PA X (e :: es) t) (hg : Gl X "tuple" := by rfl) (hK : X.K = K := by rfl) (he : starEach (e :: es) X.env = (false, eval e X.env) :: starEach es X.env := by rfl) (hpl : (backTo pos (starEach es X.env)).any (·.1) = false := by rfl) : PE X (.Call (.Name "tuple" p) (e :: es) [] pos) (tCB (rTupOf K) t) := by
  subst hK
  exact pe_callTy call_tupU hg G.tuple boot_tuple ha (by decide) (by decide) he hpl
theorem u_list (ha : PA X (e :: es) t) (hg : Gl X "list" := by rfl) (hK : X.K = K := by rfl) (he : starEach (e :: es) X.env = (false, eval e X.env) :: starEach es X.env := by rfl) (hpl : (backTo pos (starEach es X.env)).any (·.1) = false := by rfl) : PE X (.Call (.Name "list" p) (e :: es) [] pos) (tCB (rLstOf K) t) := by
  subst hK
  exact pe_callTy call_lstU hg G.list boot_list ha (by decide) (by decide) he hpl
theorem u_isi (ha : PA X (e :: es) t) (hg : Gl X "isinstance" := by rfl) (hK : X.K = K := by rfl) (he : starEach (e :: es) X.env = (false, eval e X.env) :: starEach es X.env := by rfl) (hpl : (backTo pos (starEach es X.env)).any (·.1) = false := by rfl) : PE X (.Call (.Name "isinstance" p) (e :: es) [] pos) (tCB (rIsiU K) t) := by
  subst hK
  exact pe_callB call_isiU hg G.isinstance (by decide +kernel) ha (by decide) (by decide) he hpl
theorem u_all (ha : PA X (e :: es) t) (hc : X.calm = true := by rfl) (hg : Gl X "all" := by rfl) (hK : X.K = K := by rfl) (he : starEach (e :: es) X.env = (false, eval e X.env) :: starEach es X.env := by rfl) (hpl : (backTo pos (starEach es X.env)).any (·.1) = false := by rfl) : PE X (.Call (.Name "all" p) (e :: es) [] pos) (tCB (rAll K) t) := by
  subst hK
  exact pe_callB (cr_all hc) hg G.all (by decide +kernel) ha (by decide) (by decide) he hpl
theorem u_sum (ha : PA X (e :: es) t) (hc : X.calm = true := by rfl) (hg : Gl X "sum" := by rfl) (hK : X.K = K := by rfl) (he : starEach (e :: es) X.env = (false, eval e X.env) :: starEach es X.env := by rfl) (hpl : (backTo pos (starEach es X.env)).any (·.1) = false := by rfl) : PE X (.Call (.Name "sum" p) (e :: es) [] pos) (tCB (rSumU K) t) := by
  subst hK
  exact pe_callB (call_sumU hc) hg G.sum (by decide +kernel) ha (by decide) (by decide) he hpl
theorem u_abs (ha : PA X (e :: es) t) (hc : X.calm = true := by rfl) (hg : Gl X "abs" := by rfl) (he : starEach (e :: es) X.env = (false, eval e X.env) :: starEach es X.env := by rfl) (hpl : (backTo pos (starEach es X.env)).any (·.1) = false := by rfl) : PE X (.Call (.Name "abs" p) (e :: es) [] pos) (tCB rAbs t) :=
  pe_callB call_abs hg G.abs (by decide +kernel) ha (by decide) (by decide) he hpl
theorem u_sorted (ha : PA X (e :: es) t) (hg : Gl X "sorted" := by rfl) (hK : X.K = K := by rfl) (he : starEach (e :: es) X.env = (false, eval e X.env) :: starEach es X.env := by rfl) (hpl : (backTo pos (starEach es X.env)).any (·.1) = false := by rfl) : PE X (.Call (.Name "sorted" p) (e :: es) [] pos) (tCB (rSortU K) t) := by
  subst hK
  exact pe_callB call_sortU hg G.sorted (by decide +kernel) ha (by decide) (by decide) he hpl
theorem u_str (ha : PA X (e :: es) t) (hg : Gl X "str" := by rfl) (he : starEach (e :: es) X.env = (false, eval e X.env) :: starEach es X.env := by rfl) (hpl : (backTo pos (starEach es X.env)).any (·.1) = false := by rfl) : PE X (.Call (.Name "str" p) (e :: es) [] pos) (tCB rStrI t) :=
  pe_callTy call_str_int hg G.str boot_str ha (by decide) (by decide) he hpl
theorem u_int (ha : PA X (e :: es) t) (hg : Gl X "int" := by rfl) (he : starEach (e :: es) X.env = (false, eval e X.env) :: starEach es X.env := by rfl) (hpl : (backTo pos (starEach es X.env)).any (·.1) = false := by rfl) : PE X (.Call (.Name "int" p) (e :: es) [] pos) (tCB rIntU t) :=
  pe_callTy call_intU hg G.int boot_int ha (by decide) (by decide) he hpl
theorem u_max2 (ha : PA X (e :: es) t) (hc : X.calm = true := by rfl) (hg : Gl X "max" := by rfl) (he : starEach (e :: es) X.env = (false, eval e X.env) :: starEach es X.env := by rfl) (hpl : (backTo pos (starEach es X.env)).any (·.1) = false := by rfl) : PE X (.Call (.Name "max" p) (e :: es) [] pos) (tCB rMax2 t) :=
  pe_callB (call_max2 hc) hg G.max (by decide +kernel) ha (by decide) (by decide) he hpl
theorem u_min2 (ha : PA X (e :: es) t) (hc : X.calm = true := by rfl) (hg : Gl X "min" := by rfl) (he : starEach (e :: es) X.env = (false, eval e X.env) :: starEach es X.env := by rfl) (hpl : (backTo pos (starEach es X.env)).any (·.1) = false := by rfl) : PE X (.Call (.Name "min" p) (e :: es) [] pos) (tCB rMin2 t) :=
  pe_callB (call_min2 hc) hg G.min (by decide +kernel) ha (by decide) (by decide) he hpl
theorem u_max (ha : PA X (e :: es) t) (hc : X.calm = true := by rfl) (hg : Gl X "max" := by rfl) (hK : X.K = K := by rfl) (he : starEach (e :: es) X.env = (false, eval e X.env) :: starEach es X.env := by rfl) (hpl : (backTo pos (starEach es X.env)).any (·.1) = false := by rfl) : PE X (.Call (.Name "max" p) (e :: es) [] pos) (tCB (rMaxT K) t) := by
  subst hK
  exact pe_callB (call_maxT hc) hg G.max (by decide +kernel) ha (by decide) (by decide) he hpl
theorem u_enum (ha : PA X [e] t) (hg : Gl X "enumerate" := by rfl) (hK : X.K = K := by rfl) (hs : starEach [e] X.env = [(false, eval e X.env)] := by rfl) : PI X (.Tuple elts kk tpos) (.Call (.Name "enumerate" p) [e] [] pos) (iEnumU K t) := by
  subst hK
  exact pi_enumU hg G.enumerate ha hs
theorem u_zip (ha : PA X [e, e2] t) (hg : Gl X "zip" := by rfl) (hK : X.K = K := by rfl) (hs : starEach [e, e2] X.env = (false, eval e X.env) :: starEach [e2] X.env := by rfl) (hpl : (backTo pos (starEach [e2] X.env)).any (·.1) = false := by rfl) : PI X (.Tuple elts kk tpos) (.Call (.Name "zip" p) [e, e2] [] pos) (RZ.iZipA K t) := by
  subst hK
  exact RZ.pi_zipA hg G.zip ha hs hpl
theorem u_range1 {tg : Expr} (ha : PA X [e] t) (hg : Gl X "range" := by rfl) (hs : starEach [e] X.env = [(false, eval e X.env)] := by rfl) : PI X tg (.Call (.Name "range" p) [e] [] pos) (iRng1 t) :=
  pi_range1 hg G.range ha hs
end
section
variable {X : Cx} {K : PySem.W.Frag} {mg : Str → Option Value} (G : Gs K mg)
include G
theorem kx_add (h : X.K = K := by rfl) : OpR X (binaryOp .Add) (rAddU K) := h ▸ op_addU
theorem kx_mul (h : X.K = K := by rfl) : OpR X (binaryOp .Mult) (rMulU K) := h ▸ op_mulU
theorem kx_eq (hu : X.A.units + 64 < cLine) (h : X.K = K := by rfl) : OpR X (compareOp .Eq) (rEqU K) := h ▸ op_eqU hu
theorem kx_ne (hu : X.A.units + 64 < cLine) (h : X.K = K := by rfl) : OpR X (compareOp .NotEq) (rNeU K) := h ▸ op_neU hu
theorem kx_in (h : X.K = K := by rfl) : OpR X (compareOp .In) (rInU K) := h ▸ op_inU
theorem kx_nin (h : X.K = K := by rfl) : OpR X (compareOp .NotIn) (rNotInU K) := h ▸ op_notInU
theorem kx_ix (h : X.K = K := by rfl) : IxR X (rIx K) := h ▸ ix_seq
theorem kx_sl (h : X.K = K := by rfl) : SlR X (rSlU K) := h ▸ sl_U
end
/-! ### what isn't reached -/
section
variable {X : Cx}
theorem pe_dead {e : Expr} : PE X e (fun _ _ _ => False) := ⟨fun _ _ _ _ _ _ h => h.elim⟩
theorem ps_dead {s : Stmt} : PS X s (fun _ _ _ => False) := ⟨fun _ _ _ _ _ _ h => h.elim⟩
theorem pss_dead {s : List Stmt} : PSs X s (fun _ _ _ => False) := ⟨fun _ _ _ _ _ _ h => h.elim⟩
end
section
variable {K : PySem.W.Frag} {F : Fx} {L : List Sl} {ta : TE}
theorem e_neg {i : Int} (h : EvE F ta L (.d (.int i))) : EvE F (tUn (rU fun i => .int (-i)) ta) L (.d (.int (-i))) := fun H0 B0 B H σ f g E Q q =>
  h H0 B0 B H σ f g E _ fun v B1 H1 g1 o1 => ⟨i, dp_int o1, q _ B1 H1 g1 (.int _)⟩
end
section
variable {K : PySem.W.Frag} {F : Fx} {L : List Sl} {tr : TA}
theorem e_c {R : List PyData → PyData → Prop} {ds : List PyData} {d : PyData} {E : XK} (hR : R ds d) (h : EvA F tr L (ds.map Sl.d)) : EvE F (tCall (spR R) [] E tr) L (.d d) := e_call h hR
end
/-! ### defs of the module -/
section
variable {P : Program} {w : World} {K : PySem.W.Frag} {mg : Str → Option Value} {base : Heap}
/-- the name x of the module stands for the def st of the text -/
def DefF (K : PySem.W.Frag) (mg : Str → Option Value) (x : Str) (st : Stmt) : Prop := ∃ f fd, Fun K x x st f fd ∧ mg x = some (.ref f)
/-- .. and it keeps R -/
abbrev Cal (P : Program) (w : World) (K : PySem.W.Frag) (mg : Str → Option Value) (base : Heap) (k : Nat) (x : Str) (R : List PyData → PyData → Prop) : Prop := C8.Cal P w K mg base k x (spR R) []
abbrev Bnd (x : Str) (st : Stmt) (ps : List Str) : Prop := ∀ (kV doc pm : Value) (an : Option Addr) (cdv ct : Value) (us : List Value), us.length = ps.length → bindArgs (PySem.W.fnOf x x (defArgs st) (defBody st) (defScope st) .none kV doc pm an cdv ct) ⟨us, []⟩ = pure (ps.zip us)
theorem cal_of {x : Str} {st : Stmt} {k : Nat} {R : List PyData → PyData → Prop} (ps : List Str) (D : DefF K mg x st) (b : Bnd x st ps) (h : ∀ f fd, Fun K x x st f fd → FnOk P w K mg base CX0 k f fd ps (spR R)) : Cal P w K mg base k x R := by
  obtain ⟨f, fd, Fn, m⟩ := D
  exact ⟨f, fd, ps, [], h f fd Fn, m, Fn.kp, Fn.binds b, .nil⟩
end
end K45
-- M1
set_option maxHeartbeats 2000000
/-! plain mathematics: the rule's plan, nobody waits -/
namespace K45
/-! ### sorted lists -/
theorem sorted_one {α : Type} {r : α → α → Prop} (anti : ∀ a b, r a b → r b a → a = b) (refl : ∀ a, r a a) : ∀ {l m : List α}, l.Perm m → l.Pairwise r → m.Pairwise r → l = m
  | [], m, h, _, _ => (List.Perm.eq_nil h.symm).symm
  | x :: l, [], h, _, _ => absurd h.length_eq (by simp)
  | x :: l, y :: m, h, hl, hm => by
    have h1 : r x y := by
      rcases List.mem_cons.mp (h.mem_iff.mpr (List.mem_cons_self (a := y) (l := m))) with e | q
      · rw [e]; exact refl _
      · exact (List.pairwise_cons.mp hl).1 y q
    have h2 : r y x := by
      rcases List.mem_cons.mp (h.mem_iff.mp (List.mem_cons_self (a := x) (l := l))) with e | q
      · rw [e]; exact refl _
      · exact (List.pairwise_cons.mp hm).1 x q
    have e := anti x y h1 h2
    subst e
    rw [sorted_one anti refl h.cons_inv (List.pairwise_cons.mp hl).2 (List.pairwise_cons.mp hm).2]
def sortI (l : List Int) : List Int := l.mergeSort fun a b => decide (a ≤ b)
theorem sortI_perm (l : List Int) : (sortI l).Perm l := List.mergeSort_perm _ _
theorem sortI_sorted (l : List Int) : (sortI l).Pairwise (· ≤ ·) := by
  have h := List.pairwise_mergeSort (le := fun a b : Int => decide (a ≤ b)) (fun a b c h1 h2 => by simp at *; omega) (fun a b => by simp; omega) l
  exact h.imp fun h => by simpa using h
theorem sortI_one {l ms : List Int} (h : ms.Perm l) (hs : ms.Pairwise (· ≤ ·)) : ms = sortI l :=
  sorted_one (fun a b h1 h2 => Int.le_antisymm h1 h2) Int.le_refl (h.trans (sortI_perm l).symm) hs (sortI_sorted l)
theorem sortI_congr {l m : List Int} (h : l.Perm m) : sortI l = sortI m := sortI_one ((sortI_perm l).trans h) (sortI_sorted l)
def sortP (l : List (Int × Int)) : List (Int × Int) := l.mergeSort fun a b => !SrtO.lexB b a
theorem sortP_perm (l : List (Int × Int)) : (sortP l).Perm l := List.mergeSort_perm _ _
theorem lexB_f {p q : Int × Int} : (!SrtO.lexB q p) = true ↔ ¬ (q.1 < p.1 ∨ (q.1 = p.1 ∧ q.2 < p.2)) := by
  rw [Bool.not_eq_true', SrtO.lexB_no]
theorem sortP_sorted (l : List (Int × Int)) : SrtO.Srtd SrtO.lexB (sortP l) := by
  have h := List.pairwise_mergeSort (le := fun a b : Int × Int => !SrtO.lexB b a) (fun a b c h1 h2 => by
    rw [lexB_f] at *; omega) (fun a b => by
    rw [Bool.or_eq_true, lexB_f, lexB_f]; omega) l
  exact h.imp fun h => by simpa using h
theorem sortP_one {l ms : List (Int × Int)} (h : ms.Perm l) (hs : SrtO.Srtd SrtO.lexB ms) : ms = sortP l :=
  sorted_one (r := fun a b => SrtO.lexB b a = false) (fun a b h1 h2 => by
    rw [SrtO.lexB_no] at h1 h2
    obtain ⟨a1, a2⟩ := a
    obtain ⟨b1, b2⟩ := b
    simp at h1 h2 ⊢
    omega) (fun a => by rw [SrtO.lexB_no]; omega) (h.trans (sortP_perm l).symm) hs (sortP_sorted l)

/-! ### the rule's plan -/
/-- who is there when, the latest first -/
def keyP (ticks : List Int) : List (Int × Int) := ticks.mapIdx fun i t => (0 - t, (i : Int))
def lateP (ticks : List Int) (k : Nat) : List (Int × Int) := (sortP (keyP ticks)).take k
def ridersU (ticks : List Int) (k : Nat) : List Int := (lateP ticks k).map Prod.snd
def latest (ticks : List Int) (k : Nat) : List Int := sortI (ridersU ticks k)
def stepT (w r : Int) (ticks : List Int) (k : Nat) : List Int := ticks.mapIdx fun i t => t + (if (i : Int) ∈ latest ticks k then r else w)
def cnt (bs : List Int) (i : Nat) : Int := (bs.take (i + 1)).sum
def ticksAt (w r : Int) (bs starts : List Int) : Nat → List Int
  | 0 => starts
  | i + 1 => stepT w r (ticksAt w r bs starts i) (cnt bs i).toNat
def planAt (w r : Int) (bs starts : List Int) (i : Nat) : List Int := latest (ticksAt w r bs starts i) (cnt bs i).toNat
theorem stepT_len {w r : Int} {ticks : List Int} {k : Nat} : (stepT w r ticks k).length = ticks.length := by unfold stepT; rw [List.length_mapIdx]
theorem ticksAt_len {w r : Int} {bs starts : List Int} : ∀ i, (ticksAt w r bs starts i).length = starts.length
  | 0 => rfl
  | i + 1 => by rw [ticksAt, stepT_len, ticksAt_len i]
theorem stepT_pos {w r : Int} (hw : 0 ≤ w) (hr : 0 ≤ r) {ticks : List Int} {k : Nat} (h : ∀ t ∈ ticks, 0 ≤ t) : ∀ t ∈ stepT w r ticks k, 0 ≤ t := by
  intro t ht
  unfold stepT at ht
  rw [List.mem_mapIdx] at ht
  obtain ⟨i, hi, e⟩ := ht
  have := h _ (List.getElem_mem hi)
  split at e <;> omega
theorem ticksAt_pos {w r : Int} (hw : 0 ≤ w) (hr : 0 ≤ r) {bs starts : List Int} (h : ∀ t ∈ starts, 0 ≤ t) : ∀ i, ∀ t ∈ ticksAt w r bs starts i, 0 ≤ t
  | 0 => h
  | i + 1 => stepT_pos hw hr (ticksAt_pos hw hr h i)
theorem stepT_le {w r m : Int} (hw : w ≤ 1000) (hr : r ≤ 1000) {ticks : List Int} {k : Nat} (h : ∀ t ∈ ticks, t ≤ m) : ∀ t ∈ stepT w r ticks k, t ≤ m + 1000 := by
  intro t ht
  unfold stepT at ht
  rw [List.mem_mapIdx] at ht
  obtain ⟨i, hi, e⟩ := ht
  have := h _ (List.getElem_mem hi)
  split at e <;> omega
theorem ticksAt_le {w r m : Int} (hw : w ≤ 1000) (hr : r ≤ 1000) {bs starts : List Int} (h : ∀ t ∈ starts, t ≤ m) : ∀ i, ∀ t ∈ ticksAt w r bs starts i, t ≤ m + 1000 * i
  | 0 => fun t ht => by have := h t ht; omega
  | i + 1 => fun t ht => by
    have := stepT_le hw hr (ticksAt_le hw hr h i) t ht
    omega
theorem keyP_len (ticks : List Int) : (keyP ticks).length = ticks.length := by unfold keyP; rw [List.length_mapIdx]
theorem lateP_len (ticks : List Int) (k : Nat) : (lateP ticks k).length = min k ticks.length := by
  unfold lateP
  rw [List.length_take, (sortP_perm _).length_eq, keyP_len]
theorem ridersU_len (ticks : List Int) (k : Nat) : (ridersU ticks k).length = min k ticks.length := by
  unfold ridersU; rw [List.length_map, lateP_len]
theorem latest_len (ticks : List Int) (k : Nat) : (latest ticks k).length = min k ticks.length := by
  unfold latest; rw [(sortI_perm _).length_eq, ridersU_len]
theorem latest_mem {ticks : List Int} {k : Nat} {p : Int} : p ∈ latest ticks k ↔ p ∈ ridersU ticks k := (sortI_perm _).mem_iff
theorem keyP_mem {ticks : List Int} {q : Int × Int} (h : q ∈ keyP ticks) : ∃ i : Nat, ∃ hi : i < ticks.length, q = (0 - ticks[i], (i : Int)) := by
  unfold keyP at h
  rw [List.mem_mapIdx] at h
  obtain ⟨i, hi, e⟩ := h
  exact ⟨i, hi, e.symm⟩
theorem lateP_mem {ticks : List Int} {k : Nat} {q : Int × Int} (h : q ∈ lateP ticks k) : ∃ i : Nat, ∃ hi : i < ticks.length, q = (0 - ticks[i], (i : Int)) :=
  keyP_mem ((sortP_perm _).mem_iff.mp (List.mem_of_mem_take h))
theorem ridersU_mem {ticks : List Int} {k : Nat} {p : Int} (h : p ∈ ridersU ticks k) : ∃ i : Nat, i < ticks.length ∧ p = (i : Int) := by
  unfold ridersU at h
  obtain ⟨q, hq, e⟩ := List.mem_map.mp h
  obtain ⟨i, hi, e2⟩ := lateP_mem hq
  exact ⟨i, hi, by rw [← e, e2]⟩
/-- the tick of person p -/
def tk (ticks : List Int) (p : Int) : Int := ticks.getD p.toNat 0
theorem tk_nat {ticks : List Int} {i : Nat} (h : i < ticks.length) : tk ticks (i : Int) = ticks[i] := by
  unfold tk
  rw [Int.toNat_natCast, List.getD_eq_getElem?_getD, List.getElem?_eq_getElem h] <;> rfl

/-! ### counting -/
theorem drop_count {l : List Int} (hs : l.Pairwise (· ≤ ·)) {j : Nat} {m x : Int} (h : l[j]? = some m) (hm : x < m) : l.length - j ≤ l.countP fun t => decide (x < t) := by
  have hl := (List.getElem?_eq_some_iff.mp h).1
  have e : (l.drop j).countP (fun t => decide (x < t)) = (l.drop j).length := List.countP_eq_length.mpr fun t ht => by
    obtain ⟨i, hi, rfl⟩ := List.mem_iff_getElem.mp ht
    rw [List.getElem_drop]
    rw [List.length_drop] at hi
    have hm' : m = l[j] := by rw [List.getElem?_eq_getElem hl] at h; exact (Option.some.inj h).symm
    have : m ≤ l[j + i] := by
      rw [hm']
      rcases Nat.eq_zero_or_pos i with z | z
      · subst z; exact Int.le_refl _
      · exact List.pairwise_iff_getElem.mp hs j (j + i) hl (by omega) (by omega)
    exact decide_eq_true (by omega)
  have s := (List.drop_sublist j l).countP_le (p := fun t => decide (x < t))
  rw [e, List.length_drop] at s
  exact s
theorem take_count {l : List (Int × Int)} (hs : l.Pairwise fun a b => a.1 ≤ b.1) {j : Nat} {q : Int × Int} (h : l[j]? = some q) : l.countP (fun t => decide (q.1 < t.1)) ≤ l.length - (j + 1) := by
  have hl := (List.getElem?_eq_some_iff.mp h).1
  have e : (l.take (j + 1)).countP (fun t => decide (q.1 < t.1)) = 0 := List.countP_eq_zero.mpr fun t ht => by
    obtain ⟨i, hi, rfl⟩ := List.mem_iff_getElem.mp ht
    rw [List.getElem_take]
    rw [List.length_take] at hi
    have hq : q = l[j] := by rw [List.getElem?_eq_getElem hl] at h; exact (Option.some.inj h).symm
    have : (l[i]'(by omega)).1 ≤ q.1 := by
      rw [hq]
      by_cases z : i = j
      · subst z; exact Int.le_refl _
      · exact List.pairwise_iff_getElem.mp hs i j (by omega) hl (by omega)
    simp; omega
  have t : l.countP (fun t => decide (q.1 < t.1)) = (l.take (j + 1)).countP (fun t => decide (q.1 < t.1)) + (l.drop (j + 1)).countP (fun t => decide (q.1 < t.1)) := by
    rw [← List.countP_append, List.take_append_drop]
  have u := List.countP_le_length (p := fun t : Int × Int => decide (q.1 < t.1)) (l := l.drop (j + 1))
  rw [List.length_drop] at u
  omega
theorem range_count (ticks : List Int) (x : Int) : ((keyP ticks).map Prod.snd).countP (fun p => decide (x < tk ticks p)) = (keyP ticks).countP fun q => decide (x < 0 - q.1) := by
  rw [List.countP_map]
  refine List.countP_congr fun q hq => ?_
  obtain ⟨i, hi, rfl⟩ := keyP_mem hq
  show decide (x < tk ticks (i : Int)) = true ↔ decide (x < 0 - (0 - ticks[i])) = true
  rw [tk_nat hi]
  simp
theorem late_count {ticks : List Int} {k : Nat} {q : Int × Int} (h : q ∈ lateP ticks k) : (keyP ticks).countP (fun u => decide (0 - q.1 < 0 - u.1)) = (lateP ticks k).countP fun u => decide (0 - q.1 < 0 - u.1) := by
  rw [← (sortP_perm (keyP ticks)).countP_eq]
  have t := (List.take_append_drop k (sortP (keyP ticks)))
  have s := sortP_sorted (keyP ticks)
  rw [← t] at s
  have hz : ((sortP (keyP ticks)).drop k).countP (fun u => decide (0 - q.1 < 0 - u.1)) = 0 := List.countP_eq_zero.mpr fun u hu => by
    have := (SrtO.srtd_app.mp s).2.2 q h u hu
    rw [SrtO.lexB_no] at this
    simp; omega
  have e : (sortP (keyP ticks)).countP (fun u => decide (0 - q.1 < 0 - u.1)) = ((sortP (keyP ticks)).take k).countP (fun u => decide (0 - q.1 < 0 - u.1)) + ((sortP (keyP ticks)).drop k).countP (fun u => decide (0 - q.1 < 0 - u.1)) := by
    rw [← List.countP_append, t]
  rw [e, hz] <;> rfl
/-- the riders' queue at the bicycles -/
def queueOf (ticks riders : List Int) : List (Int × Int) := sortP (riders.map fun p => (tk ticks p, p))
theorem queue_pw (l : List (Int × Int)) : (sortP l).Pairwise fun a b => a.1 ≤ b.1 := (sortP_sorted l).imp fun h => by
  rw [SrtO.lexB_no] at h; omega
/-- nobody of the latest waits for a bicycle: those of the last stage's riders, and b more -/
theorem nobody_waits {ticks old : List Int} {k k' b : Nat} (h0 : ∀ t ∈ ticks, 0 ≤ t) (hl : old.length = ticks.length) (hk : k ≤ k' + b)
    {j : Nat} {q : Int × Int} {m : Int} (hq : (queueOf ticks (latest ticks k))[j]? = some q) (hm : (sortI ((latest old k').map (tk ticks) ++ List.replicate b 0))[j]? = some m) : m ≤ q.1 := by
  apply Int.not_lt.mp
  intro hlt
  -- q is one of the latest
  have mq := List.mem_of_getElem? hq
  obtain ⟨p, hp, e⟩ := List.mem_map.mp ((sortP_perm _).mem_iff.mp mq)
  have hp2 := latest_mem.mp hp
  obtain ⟨u, hu, eu⟩ := List.mem_map.mp (show p ∈ (lateP ticks k).map Prod.snd from hp2)
  obtain ⟨i, hi, e2⟩ := lateP_mem hu
  have ep : p = (i : Int) := by rw [← eu, e2]
  have eq1 : q.1 = ticks[i] := by rw [← e, ep]; exact tk_nat hi
  have eu1 : 0 - u.1 = q.1 := by rw [e2, eq1]; simp
  have hx : 0 ≤ q.1 := by rw [eq1]; exact h0 _ (List.getElem_mem hi)
  -- how many are later than q
  have c1 := take_count (l := queueOf ticks (latest ticks k)) (queue_pw _) hq
  have n1 : (queueOf ticks (latest ticks k)).length = min k ticks.length := by
    unfold queueOf
    rw [(sortP_perm _).length_eq, List.length_map, latest_len]
  have c2 : (queueOf ticks (latest ticks k)).countP (fun t => decide (q.1 < t.1)) = (lateP ticks k).countP fun v => decide (q.1 < 0 - v.1) := by
    unfold queueOf
    rw [(sortP_perm _).countP_eq, List.countP_map, show latest ticks k = sortI (ridersU ticks k) from rfl, (sortI_perm _).countP_eq]
    unfold ridersU
    rw [List.countP_map]
    refine List.countP_congr fun v hv => ?_
    obtain ⟨i', hi', e'⟩ := lateP_mem hv
    subst e'
    show decide (q.1 < tk ticks (i' : Int)) = true ↔ decide (q.1 < 0 - (0 - ticks[i'])) = true
    rw [tk_nat hi']
    simp
  have c3 := late_count hu
  rw [eu1] at c3
  -- the bicycles that come later
  have d1 := drop_count (sortI_sorted _) hm hlt
  rw [(sortI_perm _).countP_eq, (sortI_perm _).length_eq, List.countP_append, List.length_append, List.length_map, List.length_replicate, latest_len, List.countP_map] at d1
  have z : (List.replicate b (0 : Int)).countP (fun t => decide (q.1 < t)) = 0 := List.countP_eq_zero.mpr fun t ht => by
    rw [(List.mem_replicate.mp ht).2]
    simp; omega
  rw [z, show latest old k' = sortI (ridersU old k') from rfl, (sortI_perm _).countP_eq] at d1
  have d2 : (ridersU old k').countP ((fun t => decide (q.1 < t)) ∘ tk ticks) ≤ ((keyP old).map Prod.snd).countP fun p => decide (q.1 < tk ticks p) := by
    unfold ridersU lateP
    refine Nat.le_trans (((List.take_sublist k' (sortP (keyP old))).map Prod.snd).countP_le) (Nat.le_of_eq ?_)
    exact ((sortP_perm (keyP old)).map Prod.snd).countP_eq _
  have d3 : (keyP old).map Prod.snd = (keyP ticks).map Prod.snd := by
    unfold keyP
    apply List.ext_getElem?
    intro i
    rw [List.getElem?_map, List.getElem?_map, List.getElem?_mapIdx, List.getElem?_mapIdx]
    by_cases h : i < old.length
    · rw [List.getElem?_eq_getElem h, List.getElem?_eq_getElem (by omega)] <;> rfl
    · rw [List.getElem?_eq_none (by omega), List.getElem?_eq_none (by omega)] <;> rfl
  rw [d3, range_count, c3, ← c2] at d2
  rw [n1] at c1
  have hj : j < min k ticks.length := by
    have := (List.getElem?_eq_some_iff.mp hq).1
    omega
  rw [hl] at d1
  omega
end K45
-- M2
set_option maxHeartbeats 2000000
/-! plain mathematics: the texts -/
namespace K45
open PySem
abbrev tl (x : Str) : List Nat := x.cps.toList
def isDig (c : Nat) : Bool := decide (48 ≤ c) && decide (c ≤ 57)
/-! ### runs of figures -/
/-- no run of figures in l is longer than n -/
def Rn (n : Nat) (l : List Nat) : Prop := ∀ w, w <:+: l → w.all isDig = true → w.length ≤ n
theorem Rn.sub {n : Nat} {l m : List Nat} (h : Rn n l) (s : m <:+: l) : Rn n m := fun w i d => h w (i.trans s) d
theorem Rn.mono {n m : Nat} {l : List Nat} (h : Rn n l) (e : n ≤ m) : Rn m l := fun w i d => Nat.le_trans (h w i d) e
theorem Rn.short {n : Nat} {l : List Nat} (h : l.length ≤ n) : Rn n l := fun w i _ => Nat.le_trans i.length_le h
theorem Rn.self {n : Nat} {l : List Nat} (h : Rn n l) (d : l.all isDig = true) : l.length ≤ n := h l (List.infix_refl l) d
theorem infix_append_cases {w a b : List Nat} (h : w <:+: a ++ b) : ∃ u v, w = u ++ v ∧ u <:+: a ∧ v <:+: b := by
  obtain ⟨s, t, e⟩ := h
  rw [List.append_assoc] at e
  rcases List.append_eq_append_iff.mp e with ⟨p, e1, e2⟩ | ⟨p, e1, e2⟩
  · -- a = s ++ p, w ++ t = p ++ b
    rcases List.append_eq_append_iff.mp e2 with ⟨q, f1, f2⟩ | ⟨q, f1, f2⟩
    · -- p = w ++ q
      refine ⟨w, [], by rw [List.append_nil], ⟨s, q, ?_⟩, List.nil_infix⟩
      rw [e1, f1, List.append_assoc]
    · -- w = p ++ q, b = q ++ t
      refine ⟨p, q, f1, ⟨s, [], ?_⟩, ⟨[], t, ?_⟩⟩
      · rw [e1, List.append_nil]
      · rw [f2, List.nil_append]
  · -- s = a ++ p, b = p ++ (w ++ t)
    refine ⟨[], w, rfl, List.nil_infix, ⟨p, t, ?_⟩⟩
    rw [e2, List.append_assoc]
theorem Rn.app {n m : Nat} {a b : List Nat} (ha : Rn n a) (hb : Rn m b) : Rn (n + m) (a ++ b) := fun w i d => by
  obtain ⟨u, v, e, hu, hv⟩ := infix_append_cases i
  subst e
  rw [List.all_append, Bool.and_eq_true] at d
  have h1 := ha u hu d.1
  have h2 := hb v hv d.2
  rw [List.length_append]; omega
theorem infix_cons_cases {w b : List Nat} {c : Nat} (h : w <:+: c :: b) : w <:+: b ∨ c ∈ w ∨ w = [] := by
  obtain ⟨s, t, e⟩ := h
  cases s with
  | nil =>
    cases w with
    | nil => exact .inr (.inr rfl)
    | cons x w =>
      have : x = c := by simpa using (List.cons.inj e).1
      rw [this]; exact .inr (.inl List.mem_cons_self)
  | cons x s =>
    refine .inl ⟨s, t, ?_⟩
    simpa using (List.cons.inj e).2
theorem Rn.cons {n : Nat} {b : List Nat} {c : Nat} (h : Rn n b) (hc : isDig c = false) : Rn n (c :: b) := fun w i d => by
  rcases infix_cons_cases i with q | q | q
  · exact h w q d
  · have := List.all_eq_true.mp d c q
    rw [hc] at this; cases this
  · rw [q]; exact Nat.zero_le _
theorem Rn.sep {n m : Nat} {a b : List Nat} {c : Nat} (ha : Rn n a) (hb : Rn m b) (hc : isDig c = false) : Rn (max n m) (a ++ c :: b) := fun w i d => by
  obtain ⟨u, v, e, hu, hv⟩ := infix_append_cases i
  subst e
  rw [List.all_append, Bool.and_eq_true] at d
  cases v with
  | nil =>
    have h1 := ha u hu d.1
    rw [List.append_nil]; omega
  | cons x v =>
    -- the separator lies outside v, so u is empty or v begins with it
    obtain ⟨s, t, e⟩ := i
    cases u with
    | nil =>
      have h2 := (hb.cons hc) _ hv d.2
      rw [List.nil_append]; omega
    | cons y u =>
      -- count: the whole w has no c; w is an infix of a ++ c :: b
      have nc : c ∉ (y :: u) ++ x :: v := fun q => by
        rcases List.mem_append.mp q with q | q
        · have := List.all_eq_true.mp d.1 c q
          rw [hc] at this; cases this
        · have := List.all_eq_true.mp d.2 c q
          rw [hc] at this; cases this
      rw [List.append_assoc] at e
      have dd : ((y :: u) ++ x :: v).all isDig = true := by rw [List.all_append, d.1, d.2]; rfl
      generalize (y :: u) ++ x :: v = w at e nc dd ⊢
      rcases List.append_eq_append_iff.mp e with ⟨p, e1, e2⟩ | ⟨p, e1, e2⟩
      · rcases List.append_eq_append_iff.mp e2 with ⟨q, f1, f2⟩ | ⟨q, f1, f2⟩
        · have h1 := ha w ⟨s, q, by rw [e1, f1, List.append_assoc]⟩ dd
          omega
        · cases q with
          | nil =>
            rw [List.append_nil] at f1
            have h1 := ha w ⟨s, [], by rw [e1, f1, List.append_nil]⟩ dd
            omega
          | cons z q =>
            have : z = c := by simpa using (List.cons.inj f2).1.symm
            subst this
            exact absurd (by rw [f1]; simp) nc
      · cases p with
        | nil =>
          cases w with
          | nil => exact Nat.zero_le _
          | cons z w =>
            have : z = c := by simpa using (List.cons.inj e2).1.symm
            subst this
            exact absurd List.mem_cons_self nc
        | cons z p =>
          have e3 : b = p ++ (w ++ t) := (List.cons.inj e2).2
          have h1 := hb w ⟨p, t, by rw [e3, List.append_assoc]⟩ dd
          omega
/-! ### split -/
theorem spl_infix {c : Nat} : ∀ {l acc p : List Nat}, p ∈ TL.spl [c] 0 acc l → p <:+: acc ++ l
  | [], acc, p, h => by
    rw [TL.spl_nil] at h
    rw [List.mem_singleton.mp h, List.append_nil]
    exact List.infix_refl _
  | x :: l, acc, p, h => by
    cases hp : TL.pre [c] (x :: l) with
    | true =>
      rw [TL.spl_hit hp] at h
      rcases List.mem_cons.mp h with e | h
      · rw [e]; exact (List.prefix_append acc (x :: l)).isInfix
      · have i := spl_infix (acc := []) h
        rw [List.nil_append] at i
        refine i.trans ?_
        exact (List.suffix_cons x l).isInfix.trans (List.suffix_append acc (x :: l)).isInfix
    | false =>
      rw [TL.spl_miss hp] at h
      have i := spl_infix h
      rwa [List.append_assoc] at i
theorem split_tl (x : Str) {c : Nat} (hc : c < 256) : (Txt.split x ⟨#[c]⟩).map tl = TL.spl [c] 0 [] (tl x) := by
  have h := SX.split_S (a := tl x) (b := [c]) (by simp) (by simp [hc])
  have e : SX.S (tl x) = x := SX.S_tl x
  rw [e] at h
  have h2 : Txt.split x ⟨#[c]⟩ = (TL.spl [c] 0 [] (tl x)).map SX.S := h
  rw [h2]
  exact SX.map_S_tl _
theorem split_infix {x : Str} {c : Nat} (hc : c < 256) {p : Str} (h : p ∈ Txt.split x ⟨#[c]⟩) : tl p <:+: tl x := by
  have m : tl p ∈ (Txt.split x ⟨#[c]⟩).map tl := List.mem_map.mpr ⟨p, h, rfl⟩
  rw [split_tl x hc] at m
  exact spl_infix m
/-- a text that the law may meet -/
structure Tx (x : Str) : Prop where
  len : x.length ≤ 10000
  run : Rn 640 (tl x)
  asc : ∀ c ∈ tl x, c < 256
theorem len_tl (x : Str) : x.length = (tl x).length := TL.len_tl x
theorem Tx.part {x p : Str} (h : Tx x) {c : Nat} (hc : c < 256) (hp : p ∈ Txt.split x ⟨#[c]⟩) : Tx p := by
  have i := split_infix hc hp
  refine ⟨?_, h.run.sub i, fun c hc => h.asc c (i.subset hc)⟩
  have := h.len
  have l := i.length_le
  rw [len_tl] at this ⊢
  omega
theorem Tx.parts {x : Str} (h : Tx x) (y : Str) : (Txt.split x y).length ≤ 10002 := by
  have := PyProof.Rows.split_le x y
  have := h.len
  omega
/-! ### numbers -/
def lead (l : List Nat) : Bool := decide (l.head? = some 48) && !decide (l = [48])
def canonL (l : List Nat) : Option Int := if l.isEmpty || (!l.all isDig) || lead l then none else some ((NumText.digitsVal l : Nat) : Int)
def canon (x : Str) : Option Int := canonL (tl x)
theorem fold_ge : ∀ (l : List Nat) (a : Nat), a * 10 ^ l.length ≤ l.foldl (fun acc c => acc * 10 + (c - 48)) a
  | [], a => by simp
  | c :: l, a => by
    have h := fold_ge l (a * 10 + (c - 48))
    rw [List.foldl_cons, List.length_cons, Nat.pow_succ]
    refine Nat.le_trans ?_ h
    calc a * (10 ^ l.length * 10) = (a * 10) * 10 ^ l.length := by rw [Nat.mul_comm (10 ^ l.length) 10, Nat.mul_assoc]
      _ ≤ (a * 10 + (c - 48)) * 10 ^ l.length := Nat.mul_le_mul_right _ (Nat.le_add_right _ _)
theorem canon_big {x : Str} {n : Int} (h : canon x = some n) (hl : 8 < x.length) : 100000000 ≤ n := by
  rw [len_tl] at hl
  unfold canon canonL at h
  cases e : tl x with
  | nil => rw [e] at hl; simp at hl
  | cons c l =>
    rw [e] at h hl
    split at h
    · cases h
    · rename_i q
      simp only [Bool.or_eq_true, not_or, Bool.not_eq_true, Bool.not_eq_false'] at q
      obtain ⟨⟨_, q2⟩, q3⟩ := q
      have d : isDig c = true := List.all_eq_true.mp q2 c List.mem_cons_self
      unfold isDig at d
      rw [Bool.and_eq_true, decide_eq_true_eq, decide_eq_true_eq] at d
      have c49 : 49 ≤ c := by
        rcases Nat.lt_or_ge c 49 with z | z
        · have : c = 48 := by omega
          subst this
          unfold lead at q3
          have e1 : (48 :: l : List Nat) ≠ [48] := fun z => by
            have := congrArg List.length z
            simp at this
            simp [this] at hl
          simp [e1] at q3
        · exact z
      cases h
      have f := fold_ge l (0 * 10 + (c - 48))
      have g : NumText.digitsVal (c :: l) = l.foldl (fun acc c => acc * 10 + (c - 48)) (0 * 10 + (c - 48)) := rfl
      rw [g]
      have p8 : 10 ^ 8 ≤ 10 ^ l.length := Nat.pow_le_pow_right (by decide) (by simp at hl; omega)
      have : 1 * 10 ^ 8 ≤ (0 * 10 + (c - 48)) * 10 ^ l.length := Nat.mul_le_mul (by omega) p8
      have : 10 ^ 8 = 100000000 := by decide
      omega
theorem canon_pos {x : Str} {n : Int} (h : canon x = some n) : 0 ≤ n := by
  unfold canon canonL at h
  split at h
  · cases h
  · cases h; omega
/-- the program's reading of a number -/
def canon8 (x : Str) : Option Int := if x.length ≤ 8 then canon x else none
theorem canon8_of {x : Str} {n : Int} (h : canon x = some n) (hn : n < 100000000) : canon8 x = some n := by
  unfold canon8
  rw [if_pos, h]
  apply Nat.le_of_not_lt
  intro z
  have := canon_big h z
  omega
theorem canon8_le {x : Str} {n : Int} (h : canon8 x = some n) : canon x = some n := by
  unfold canon8 at h
  split at h
  · exact h
  · cases h
/-- the law's -/
def canonTo (lo hi : Int) (x : Str) : Option Int := match canon x with
  | some n => if lo ≤ n ∧ n ≤ hi then some n else none
  | none => none
/-! ### lists of numbers -/
def allSome {α β : Type} (f : α → Option β) : List α → Option (List β)
  | [] => some []
  | x :: l => match f x, allSome f l with
    | some y, some m => some (y :: m)
    | _, _ => none
theorem allSome_some {α β : Type} {f : α → Option β} : ∀ {l : List α} {m : List β}, allSome f l = some m ↔ l.map f = m.map some
  | [], [] => by simp [allSome]
  | [], _ :: _ => by simp [allSome]
  | x :: l, m => by
    have ih := @allSome_some α β f l
    unfold allSome
    cases hx : f x with
    | none => cases m <;> simp [hx]
    | some y =>
      cases hl : allSome f l with
      | none =>
        cases m with
        | nil => simp [hx]
        | cons z m =>
          simp only [hx, List.map_cons, List.cons.injEq, reduceCtorEq, false_iff, not_and]
          intro _ q
          have := (ih (m := m)).mpr q
          rw [hl] at this; cases this
      | some k =>
        cases m with
        | nil => simp [hx]
        | cons z m =>
          simp only [hx, List.map_cons, List.cons.injEq, Option.some.injEq]
          constructor
          · rintro ⟨e1, e2⟩
            subst e1; subst e2
            exact ⟨rfl, ih.mp hl⟩
          · rintro ⟨e1, e2⟩
            have := ih.mpr e2
            rw [hl] at this
            exact ⟨e1, Option.some.inj this⟩
theorem allSome_none {α β : Type} {f : α → Option β} : ∀ {l : List α}, allSome f l = none ↔ ∃ x ∈ l, f x = none
  | [] => by simp [allSome]
  | x :: l => by
    have ih := @allSome_none α β f l
    unfold allSome
    cases hx : f x with
    | none => simp [hx]
    | some y =>
      cases hl : allSome f l with
      | none => simp only [true_iff]; obtain ⟨z, hz, e⟩ := ih.mp hl; exact ⟨z, List.mem_cons_of_mem _ hz, e⟩
      | some k =>
        simp only [reduceCtorEq, false_iff]
        rintro ⟨z, hz, e⟩
        rcases List.mem_cons.mp hz with q | q
        · subst q; rw [hx] at e; cases e
        · have := ih.mpr ⟨z, q, e⟩
          rw [hl] at this; cases this
theorem allSome_congr {α β : Type} {f g : α → Option β} {l : List α} (h : ∀ x ∈ l, f x = g x) : allSome f l = allSome g l := by
  induction l with
  | nil => rfl
  | cons x l ih =>
    unfold allSome
    rw [h x List.mem_cons_self, ih fun y hy => h y (List.mem_cons_of_mem _ hy)]
abbrev comma : Str := ⟨#[44]⟩
abbrev slash : Str := ⟨#[47]⟩
abbrev blank1 : Str := ⟨#[32]⟩
abbrev fromS : Str := ⟨#[102, 114, 111, 109]⟩
/-- numbers with commas between them: at most `most`, none above `hi` -/
def numsW (most : Nat) (hi : Int) (x : Str) : Option (List Int) := match allSome (canonTo 0 hi) (Txt.split x comma) with
  | some l => if l.length ≤ most then some l else none
  | none => none
theorem numsW_some {most : Nat} {hi : Int} {x : Str} {l : List Int} (h : numsW most hi x = some l) : 1 ≤ l.length ∧ l.length ≤ most ∧ ∀ n ∈ l, 0 ≤ n ∧ n ≤ hi := by
  unfold numsW at h
  cases e : allSome (canonTo 0 hi) (Txt.split x comma) with
  | none => rw [e] at h; cases h
  | some m =>
    rw [e] at h
    have h : (if m.length ≤ most then some m else none) = some l := h
    split at h
    · rename_i q
      cases h
      have a := allSome_some.mp e
      have ln := congrArg List.length a
      rw [List.length_map, List.length_map] at ln
      refine ⟨by rw [← ln]; exact PyProof.Rows.split_pos x comma, q, fun n hn => ?_⟩
      have : some n ∈ l.map some := List.mem_map.mpr ⟨n, hn, rfl⟩
      rw [← a] at this
      obtain ⟨p, hp, ep⟩ := List.mem_map.mp this
      unfold canonTo at ep
      cases ec : canon p with
      | none => rw [ec] at ep; cases ep
      | some k =>
        rw [ec] at ep
        have ep : (if 0 ≤ k ∧ k ≤ hi then some k else none) = some n := ep
        split at ep
        · rename_i q2; cases ep; exact q2
        · cases ep
    · cases h
/-- the program's way to them -/
def nums8 (x : Str) : Option (List Int) := allSome canon8 (Txt.split x comma)
theorem nums8_eq {most : Nat} {hi : Int} (hhi : hi < 100000000) (x : Str) : (match nums8 x with
    | some l => if (1 ≤ l.length ∧ l.length ≤ most) ∧ l.all (fun n => decide (0 ≤ n) && decide (n ≤ hi)) = true then some l else none
    | none => none) = numsW most hi x := by
  unfold nums8 numsW
  cases e : allSome (canonTo 0 hi) (Txt.split x comma) with
  | some m =>
    have a := allSome_some.mp e
    have a8 : (Txt.split x comma).map canon8 = m.map some := by
      rw [← a]
      refine List.map_congr_left fun p hp => ?_
      have : canonTo 0 hi p ∈ m.map some := by rw [← a]; exact List.mem_map.mpr ⟨p, hp, rfl⟩
      obtain ⟨n, hn, en⟩ := List.mem_map.mp this
      unfold canonTo at en ⊢
      cases ec : canon p with
      | none => rw [ec] at en; cases en
      | some k =>
        rw [ec] at en
        have en : some n = (if 0 ≤ k ∧ k ≤ hi then some k else none) := en
        show canon8 p = (if 0 ≤ k ∧ k ≤ hi then some k else none)
        split at en
        · rename_i q
          rw [if_pos q]
          exact canon8_of ec (by omega)
        · cases en
    rw [allSome_some.mpr a8]
    have ln := congrArg List.length a
    rw [List.length_map, List.length_map] at ln
    have l1 : 1 ≤ m.length := by rw [← ln]; exact PyProof.Rows.split_pos x comma
    have al : m.all (fun n => decide (0 ≤ n) && decide (n ≤ hi)) = true := List.all_eq_true.mpr fun n hn => by
      have : some n ∈ m.map some := List.mem_map.mpr ⟨n, hn, rfl⟩
      rw [← a] at this
      obtain ⟨p, hp, ep⟩ := List.mem_map.mp this
      unfold canonTo at ep
      cases ec : canon p with
      | none => rw [ec] at ep; cases ep
      | some k =>
        rw [ec] at ep
        have ep : (if 0 ≤ k ∧ k ≤ hi then some k else none) = some n := ep
        split at ep
        · rename_i q2; cases ep; simpa using q2
        · cases ep
    show (if _ then some m else none) = if _ then some m else none
    by_cases q : m.length ≤ most
    · rw [if_pos q, if_pos ⟨⟨l1, q⟩, al⟩]
    · rw [if_neg q, if_neg fun z => q z.1.2]
  | none =>
    obtain ⟨p, hp, ep⟩ := allSome_none.mp e
    cases e8 : allSome canon8 (Txt.split x comma) with
    | none => rfl
    | some m =>
      show (if _ then some m else none) = none
      rw [if_neg]
      rintro ⟨_, al⟩
      have a := allSome_some.mp e8
      have : canon8 p ∈ m.map some := by rw [← a]; exact List.mem_map.mpr ⟨p, hp, rfl⟩
      obtain ⟨n, hn, en⟩ := List.mem_map.mp this
      have ec := canon8_le en.symm
      have q := List.all_eq_true.mp al n hn
      unfold canonTo at ep
      rw [ec] at ep
      have ep : (if 0 ≤ n ∧ n ≤ hi then some n else none) = none := ep
      rw [if_pos (by simpa using q)] at ep
      cases ep
end K45
-- B7
set_option maxHeartbeats 4000000
namespace K45
open PySem PySem.Spec PyProof.Rows L2
open Evl (Ex ex_rd ex_l ex_t)
section
variable {P : Program} {w : World} {K : PySem.W.Frag} {mg : Str → Option Value} {base : Heap}
abbrev intsD (l : List Int) : PyData := .tuple (l.map PyData.int)
abbrev roadD (w r : Int) (bs : List Int) : PyData := .tuple [.int w, .int r, intsD bs]
inductive R_is_number : List PyData → PyData → Prop
  | mk (i lo hi : Int) : R_is_number [.int i, .int lo, .int hi] (.bool (decide (lo ≤ i) && decide (i ≤ hi)))
def okTicks (w r : Int) : Bool := (decide (1 ≤ w) && decide (w ≤ 1000)) && (decide (1 ≤ r) && decide (r ≤ w - 1))
inductive R_are_ticks : List PyData → PyData → Prop
  | mk (w r : Int) : R_are_ticks [.int w, .int r] (.bool (okTicks w r))
abbrev s_is_number : Stmt := top 29
abbrev n_is_number : List Str := ["value", "low", "high"]
theorem sc_is_number : FnScope n_is_number ["value", "low", "high"] (defScope s_is_number) := ⟨rfl, rfl, rfl, by decide +kernel, rfl, by decide +kernel, by decide +kernel⟩
theorem f_is_number (G : Gs K mg)  (D : DefF K mg "is_number" s_is_number) : Cal P w K mg base 1 "is_number" R_is_number :=
  cal_of ["value", "low", "high"] D (fun _ _ _ _ _ _ us hl => match us, hl with | [_, _, _], _ => rfl) fun f fd Fn => by
    have sc := sc_is_number
    refine fn_pure Fn sc (fun ds d h => by cases h <;> rfl) fun cdv A outer s H E hr => ?_
    have hu := hr.units
    refine ⟨_, (pss_one (ps_ret (pe_and (u_isi G (pa_cons (pv 0) (pa_cons (u_tint G) pa_nil))) (pe_and (pe_not (u_isi G (pa_cons (pv 0) (pa_cons (u_tbool G) pa_nil)))) (pe_one (pe_chain op_le op_le (pv 1) (pv 0) (pv 2))))))), fun ds d h => ?_⟩
    cases h with
    | mk i lo hi =>
      refine r_ret (e_andV (c_isi (a_cons (e_var rfl) (a_cons e_val a_nil)) rfl (b := true) rfl) fun _ => e_andV (e_notV (c_isi (a_cons (e_var rfl) (a_cons e_val a_nil)) rfl (b := false) rfl)) fun _ => e_chain (e_var rfl) (e_var rfl) (e_var rfl)) rfl ?_
      rfl
abbrev s_are_ticks : Stmt := top 30
abbrev n_are_ticks : List Str := ["walk", "ride"]
theorem sc_are_ticks : FnScope n_are_ticks ["walk", "ride"] (defScope s_are_ticks) := ⟨rfl, rfl, rfl, by decide +kernel, rfl, by decide +kernel, by decide +kernel⟩
theorem f_are_ticks (G : Gs K mg) (c_is_number : Cal P w K mg base 1 "is_number" R_is_number) (D : DefF K mg "are_ticks" s_are_ticks) : Cal P w K mg base 2 "are_ticks" R_are_ticks :=
  cal_of ["walk", "ride"] D (fun _ _ _ _ _ _ us hl => match us, hl with | [_, _], _ => rfl) fun f fd Fn => by
    have sc := sc_are_ticks
    refine fn_pure Fn sc (fun ds d h => by cases h <;> rfl) fun cdv A outer s H E hr => ?_
    have hu := hr.units
    refine ⟨_, (pss_one (ps_ret (pe_and (C8.pe_c c_is_number hr (by decide) (by rfl) (pa_cons (pv 0) (pa_cons pe_int (pa_cons (u_gint G.MAX_TICKS) pa_nil)))) (pe_one (C8.pe_c c_is_number hr (by decide) (by rfl) (pa_cons (pv 1) (pa_cons pe_int (pa_cons (pe_op op_sub (pv 0) pe_int) pa_nil)))))))), fun ds d h => ?_⟩
    cases h with
    | mk w r =>
      refine r_ret (e_andV (e_c (.mk w 1 1000) (a_cons (e_var rfl) (a_cons e_int (a_cons e_int a_nil)))) fun _ => e_c (.mk r 1 (w - 1)) (a_cons (e_var rfl) (a_cons e_int (a_cons (e_sub (e_var rfl) e_int) a_nil)))) rfl ?_
      rfl

theorem enum_inv {ds : List PyData} {i : Nat} {d : PyData} (h : (enumD ds)[i]? = some d) : ∃ x, ds[i]? = some x ∧ d = .tuple [.int (i : Int), x] := by
  unfold enumD at h
  rw [List.getElem?_mapIdx] at h
  cases e : ds[i]? with
  | none => rw [e] at h; cases h
  | some x => rw [e] at h; cases h; exact ⟨x, rfl, rfl⟩
theorem map_inv {α : Type} {f : α → PyData} {l : List α} {i : Nat} {d : PyData} (h : (l.map f)[i]? = some d) : ∃ x, l[i]? = some x ∧ d = f x := by
  rw [List.getElem?_map] at h
  cases e : l[i]? with
  | none => rw [e] at h; cases h
  | some x => rw [e] at h; cases h; exact ⟨x, rfl, rfl⟩
theorem zip_inv {xs ys : List PyData} {i : Nat} {d : PyData} (h : (zipD xs ys)[i]? = some d) : ∃ x y, xs[i]? = some x ∧ ys[i]? = some y ∧ d = .tuple [x, y] := by
  unfold zipD at h
  rw [List.getElem?_zipWith] at h
  cases e : xs[i]? with
  | none => rw [e] at h; cases h
  | some x =>
    rw [e] at h
    cases e2 : ys[i]? with
    | none => rw [e2] at h; cases h
    | some y => rw [e2] at h; cases h; exact ⟨x, y, rfl, rfl, rfl⟩
def okBike (b : Int) : Bool := decide (0 ≤ b) && decide (b ≤ 12)
def roadErr (w r : Int) (bs : List Int) : PyData :=
  if okTicks w r then (if 1 ≤ bs.length ∧ bs.length ≤ 12 then (match bs.findIdx? (fun b => !okBike b) with
    | some i => .tuple [.int (i : Nat), .str "bikes"]
    | none => .none) else .tuple [.none, .str "bikes"]) else .tuple [.none, .str "ticks"]
inductive R_road_error : List PyData → PyData → Prop
  | mk (w r : Int) (bs : List Int) : R_road_error [roadD w r bs] (roadErr w r bs)
def okRoad (w r : Int) (bs : List Int) : Bool := okTicks w r && (decide (1 ≤ bs.length ∧ bs.length ≤ 12) && bs.all okBike)
theorem roadErr_no (w r : Int) (bs : List Int) : isNo (roadErr w r bs) = okRoad w r bs := by
  unfold roadErr okRoad
  cases okTicks w r with
  | false => rfl
  | true =>
    by_cases h : 1 ≤ bs.length ∧ bs.length ≤ 12
    · rw [if_pos rfl, if_pos h, decide_eq_true h]
      cases e : bs.findIdx? (fun b => !okBike b) with
      | none =>
        have := List.findIdx?_eq_none_iff.mp e
        have e2 : bs.all okBike = true := List.all_eq_true.mpr fun x hx => by simpa using this x hx
        rw [e2]; rfl
      | some i =>
        obtain ⟨hi, h1, h2⟩ := List.findIdx?_eq_some_iff_getElem.mp e
        have e2 : bs.all okBike = false := by
          rw [Bool.eq_false_iff]
          intro z
          have := List.all_eq_true.mp z bs[i] (List.getElem_mem hi)
          rw [this] at h1; cases h1
        rw [e2]; rfl
    · rw [if_pos rfl, if_neg h, decide_eq_false h]; rfl
inductive R_is_road : List PyData → PyData → Prop
  | mk (w r : Int) (bs : List Int) : R_is_road [roadD w r bs] (.bool (okRoad w r bs))
abbrev s_road_error : Stmt := top 31
abbrev n_road_error : List Str := ["value", "walk", "ride", "bikes", "index", "number"]
theorem sc_road_error : FnScope n_road_error ["value"] (defScope s_road_error) := ⟨rfl, rfl, rfl, by decide +kernel, rfl, by decide +kernel, by decide +kernel⟩
theorem f_road_error (G : Gs K mg) (c_are_ticks : Cal P w K mg base 2 "are_ticks" R_are_ticks) (c_is_number : Cal P w K mg base 1 "is_number" R_is_number) (D : DefF K mg "road_error" s_road_error) : Cal P w K mg base 3 "road_error" R_road_error :=
  cal_of ["value"] D (fun _ _ _ _ _ _ us hl => match us, hl with | [_], _ => rfl) fun f fd Fn => by
    have sc := sc_road_error
    refine fn_pure Fn sc (fun ds d h => by cases h <;> rfl) fun cdv A outer s H E hr => ?_
    have hu := hr.units
    refine ⟨_, (pss_cons (ps_if (PW.pt (pw_or (pt_not (pt_val (u_isi G (pa_cons (pv 0) (pa_cons (u_ttuple G) pa_nil))))) (pw_or1 (pt_cmpR (kx_ne G hu) (u_len G (pa_cons (pv 0) pa_nil)) pe_int (nomark _))))) (pss_one (ps_ret (pe_tup (pa_cons pe_non (pa_cons pe_str pa_nil))))) pss_nil)
      (pss_cons (ps_asg (pv 0) (pg_tup (by rfl) (pgs_cons (pg_name (i := 1) sc.nd rfl (Or.inl rfl)) (pgs_cons (pg_name (i := 2) sc.nd rfl (Or.inl rfl)) (pgs_cons (pg_name (i := 3) sc.nd rfl (Or.inl rfl)) pgs_nil)))))
      (pss_cons (ps_if (pt_not (pt_val (C8.pe_c c_are_ticks hr (by decide) (by rfl) (pa_cons (pv 1) (pa_cons (pv 2) pa_nil))))) (pss_one (ps_ret (pe_tup (pa_cons pe_non (pa_cons pe_str pa_nil))))) pss_nil)
      (pss_cons (ps_if (PW.pt (pw_or (pt_not (pt_val (u_isi G (pa_cons (pv 3) (pa_cons (u_ttuple G) pa_nil))))) (pw_or1 (pt_not (pt_chain op_le op_le pe_int (u_len G (pa_cons (pv 3) pa_nil)) (u_gint G.MAX_STAGES)))))) (pss_one (ps_ret (pe_tup (pa_cons pe_non (pa_cons pe_str pa_nil))))) pss_nil)
      (pss_cons (ps_for PassesOwn.never rfl (u_enum G (pa_cons (pv 3) pa_nil)) (pg_tup (by rfl) (pgs_cons (pg_name (i := 4) sc.nd rfl (Or.inl rfl)) (pgs_cons (pg_name (i := 5) sc.nd rfl (Or.inl rfl)) pgs_nil))) (pss_one (ps_if (pt_not (pt_val (C8.pe_c c_is_number hr (by decide) (by rfl) (pa_cons (pv 5) (pa_cons pe_int (pa_cons (u_gint G.MAX_BIKES) pa_nil)))))) (pss_one (ps_ret (pe_tup (pa_cons (pv 4) (pa_cons pe_str pa_nil))))) pss_nil)))
      (pss_one (ps_ret pe_non))))))), fun ds d h => ?_⟩
    cases h with
    | mk w r bs =>
      refine r_guard (b := false) ((t_or (t_not (t_test (c_isi (a_cons (e_var rfl) (a_cons e_val a_nil)) rfl (b := true) rfl))) fun _ => t_B (e_neI (c_len (a_cons (e_var rfl) a_nil) (.inr rfl)) e_int)).is rfl) (fun h => nomatch h) fun _ => ?_
      refine r_seq (r_asgT (e_var rfl) (g_tup (gs_cons g_name (gs_cons g_name (gs_cons g_name gs_nil)))) rfl) ?_
      refine r_guard (t_not (t_test (e_c (.mk w r) (a_cons (e_var rfl) (a_cons (e_var rfl) a_nil))))) (fun h => r_ret (e_tup (ds := [.none, .str "ticks"]) (a_cons e_non (a_cons e_str a_nil)) (by decide)) rfl ?_) fun h => ?_
      · show _ = roadErr w r bs
        unfold roadErr
        rw [if_neg (by simpa using h)]
      have ok1 : okTicks w r = true := by simpa using h
      refine r_guard (t_or (t_not (t_test (c_isi (a_cons (e_var rfl) (a_cons e_val a_nil)) rfl (b := true) rfl))) fun _ => t_not (t_test (e_chain e_int (c_len (a_cons (e_var rfl) a_nil) (.inr rfl)) e_int))) (fun h => r_ret (e_tup (ds := [.none, .str "bikes"]) (a_cons e_non (a_cons e_str a_nil)) (by decide)) rfl ?_) fun h => ?_
      · show _ = roadErr w r bs
        unfold roadErr
        rw [if_pos ok1, if_neg (by simp at h; omega)]
      have ok2 : 1 ≤ bs.length ∧ bs.length ≤ 12 := by simp at h; omega
      refine r_seqI (I := fun _ => ∀ j (hj : j < bs.length), okBike bs[j] = true) (r_for (js := [4, 5]) (it_enumU (a_cons (e_var rfl) a_nil) (.inr rfl)) (fun i L' => ∃ s4 s5, L' = [.d (roadD w r bs), .d (.int w), .d (.int r), .d (intsD bs), s4, s5] ∧ ∀ j (hj : j < bs.length), j < i → okBike bs[j] = true) ⟨_, _, rfl, fun j hj h => absurd h (Nat.not_lt_zero _)⟩ (fun i d L' hd hI => ?_) (fun L' hI => ?_)) (fun M hM => r_ret e_non rfl ?_)
      · obtain ⟨x, hx, rfl⟩ := enum_inv hd
        obtain ⟨b, hb, rfl⟩ := map_inv hx
        obtain ⟨s4, s5, rfl, hI⟩ := hI
        have hlt := (List.getElem?_eq_some_iff.mp hb).1
        have hbe : b = bs[i] := by rw [List.getElem?_eq_getElem hlt] at hb; exact (Option.some.inj hb).symm
        refine ⟨[.int (i : Int), .int b], g_tup (gs_cons g_name (gs_cons g_name gs_nil)), ?_⟩
        refine r_if (t_not (t_test (e_c (.mk b 0 12) (a_cons (e_var rfl) (a_cons e_int (a_cons e_int a_nil)))))) (fun h => r_ret (e_tup (ds := [.int (i : Int), .str "bikes"]) (a_cons (e_var rfl) (a_cons e_str a_nil)) (by simp)) rfl ?_) fun h => r_next ⟨_, _, rfl, fun j hj hji => ?_⟩
        · show _ = roadErr w r bs
          unfold roadErr
          have e : bs.findIdx? (fun b => !okBike b) = some i := by
            rw [List.findIdx?_eq_some_iff_getElem]
            refine ⟨hlt, ?_, fun j hji => ?_⟩
            · rw [← hbe]; exact h
            · rw [hI j (Nat.lt_trans hji hlt) hji]; decide
          rw [if_pos ok1, if_pos ok2, e]
        · by_cases q : j < i
          · exact hI j hj q
          · have e : j = i := by omega
            subst e
            rw [← hbe]
            simpa [okBike] using h
      · obtain ⟨s4, s5, rfl, hI⟩ := hI
        exact fun j hj => hI j hj (by simpa [enumD_len] using hj)
      · show _ = roadErr w r bs
        unfold roadErr
        have e : bs.findIdx? (fun b => !okBike b) = none := by
          rw [List.findIdx?_eq_none_iff]
          intro x hx
          obtain ⟨j, hj, rfl⟩ := List.mem_iff_getElem.mp hx
          rw [hM j hj]; rfl
        rw [if_pos ok1, if_pos ok2, e]
abbrev s_is_road : Stmt := top 32
abbrev n_is_road : List Str := ["value"]
theorem sc_is_road : FnScope n_is_road ["value"] (defScope s_is_road) := ⟨rfl, rfl, rfl, by decide +kernel, rfl, by decide +kernel, by decide +kernel⟩
theorem f_is_road (G : Gs K mg) (c_road_error : Cal P w K mg base 3 "road_error" R_road_error) (D : DefF K mg "is_road" s_is_road) : Cal P w K mg base 4 "is_road" R_is_road :=
  cal_of ["value"] D (fun _ _ _ _ _ _ us hl => match us, hl with | [_], _ => rfl) fun f fd Fn => by
    have sc := sc_is_road
    refine fn_pure Fn sc (fun ds d h => by cases h <;> rfl) fun cdv A outer s H E hr => ?_
    have hu := hr.units
    refine ⟨_, (pss_one (ps_ret (pe_cmp (pc_isN (C8.pe_c c_road_error hr (by decide) (by rfl) (pa_cons (pv 0) pa_nil))) (by rfl)))), fun ds d h => ?_⟩
    cases h with
    | mk w r bs =>
      refine r_ret ((e_isN (e_c (.mk w r bs) (a_cons (e_var rfl) a_nil))).is (by rw [roadErr_no])) rfl rfl

inductive R_counts_of : List PyData → PyData → Prop
  | mk (w r : Int) (bs : List Int) (h : bs.length ≤ 1000) : R_counts_of [roadD w r bs] (intsD ((List.range bs.length).map (cnt bs)))
theorem shaped_ints (ns : List Int) : SeqAt.shaped (.list (ns.map PyData.int)) = true := PySem.W.ke_shaped_ints ns
theorem eqv_ints_nil (ns : List Int) : PyData.eqv (.list (ns.map PyData.int)) (.list []) = ns.isEmpty := by
  cases ns <;> simp [PyData.eqv, PyData.eqvAll]
theorem cnt_last (bs : List Int) (i : Nat) : atI (((List.range (i + 1)).map (cnt bs)).map PyData.int) (-1) = some (.int (cnt bs i)) := by
  rw [List.range_succ, List.map_append, List.map_append]
  exact atI_last _ _
theorem cnt_succ {bs : List Int} {i : Nat} (h : i + 1 < bs.length) : cnt bs (i + 1) = bs[i + 1] + cnt bs i := by
  unfold cnt
  rw [List.take_succ (i := i + 1), List.getElem?_eq_getElem h, List.sum_append]
  simp
  omega
theorem cnt_zero {bs : List Int} (h : 0 < bs.length) : cnt bs 0 = bs[0] := by
  cases bs with
  | nil => exact absurd h (Nat.lt_irrefl 0)
  | cons b bs => simp [cnt]
abbrev s_counts_of : Stmt := top 33
abbrev n_counts_of : List Str := ["road", "found", "number"]
theorem sc_counts_of : FnScope n_counts_of ["road"] (defScope s_counts_of) := ⟨rfl, rfl, rfl, by decide +kernel, rfl, by decide +kernel, by decide +kernel⟩
theorem f_counts_of (G : Gs K mg)  (D : DefF K mg "counts_of" s_counts_of) : Cal P w K mg base 1 "counts_of" R_counts_of :=
  cal_of ["road"] D (fun _ _ _ _ _ _ us hl => match us, hl with | [_], _ => rfl) fun f fd Fn => by
    have sc := sc_counts_of
    refine fn_pure Fn sc (fun ds d h => by cases h <;> rfl) fun cdv A outer s H E hr => ?_
    have hu := hr.units
    refine ⟨_, (pss_cons (ps_set (i := 1) sc.nd rfl (Or.inl rfl) (pe_lst pa_nil))
      (pss_cons (ps_for PassesOwn.never rfl (pi_tup (pe_ix (kx_ix G) (pv 0) pe_int (fun _ _ => rfl))) (pg_name (i := 2) sc.nd rfl (Or.inl rfl)) (pss_one (ps_expr (pe_bm PySem.F.plainAttrs_list PySem.F.slot_list_append PySem.F.type_list_append mt_append (pv 1) (pa_cons (pe_op (kx_add G) (pv 2) (pe_ifExp (pt_cmpR (kx_ne G hu) (pv 1) (pe_lst pa_nil) (nomark _)) (pe_ix (kx_ix G) (pv 1) (pe_un un_neg pe_int) (fun _ _ => rfl)) pe_int)) pa_nil)))))
      (pss_one (ps_ret (u_tuple G (pa_cons (pv 1) pa_nil)))))), fun ds d h => ?_⟩
    cases h with
    | mk w r bs hz =>
      refine r_seq (r_asgM (m_lst (ds := []) a_nil (by decide)) rfl) ?_
      refine r_seqI (I := fun L' => ∃ s, L' = [.d (roadD w r bs), .m (((List.range bs.length).map (cnt bs)).map PyData.int), s]) (r_for (js := [2]) (it_tup (e_ix (e_var rfl) (.inr rfl) e_int (by rfl))) (fun i L' => ∃ s, L' = [.d (roadD w r bs), .m (((List.range i).map (cnt bs)).map PyData.int), s]) ⟨_, rfl⟩ (fun i d L' hd hI => ?_) (fun L' hI => ?_)) (fun M hM => ?_)
      · obtain ⟨b, hb, rfl⟩ := map_inv hd
        obtain ⟨s, rfl⟩ := hI
        have hlt := (List.getElem?_eq_some_iff.mp hb).1
        have hbe : b = bs[i] := by rw [List.getElem?_eq_getElem hlt] at hb; exact (Option.some.inj hb).symm
        refine ⟨[.int b], g_name, r_app (xs := ((List.range i).map (cnt bs)).map PyData.int) (d := .int (cnt bs i)) rfl ?_ (by rw [List.length_map, List.length_map, List.length_range]; omega) ⟨.d (.int b), ?_⟩⟩
        · cases i with
          | zero =>
            refine (e_add (i := b) (j := 0) (e_var rfl) (e_if (b := false) ((t_test (e_ne (x := .list (((List.range 0).map (cnt bs)).map PyData.int)) (y := .list []) (e_var rfl) rfl (m_lst (ds := []) a_nil (by decide)).d rfl (shaped_ints _) (shaped_ints []))).is rfl) (fun h => nomatch h) fun _ => e_int)).is ?_
            rw [cnt_zero hlt, hbe]; simp
          | succ i =>
            refine (e_add (i := b) (j := cnt bs i) (e_var rfl) (e_if (b := true) ((t_test (e_ne (x := .list (((List.range (i + 1)).map (cnt bs)).map PyData.int)) (y := .list []) (e_var rfl) rfl (m_lst (ds := []) a_nil (by decide)).d rfl (shaped_ints _) (shaped_ints []))).is ?_) (fun _ => e_ix (e_var rfl) (.inl rfl) (e_neg e_int) (cnt_last bs i)) fun h => nomatch h)).is ?_
            · rw [eqv_ints_nil, List.range_succ]; simp
            · rw [cnt_succ hlt, hbe]
        · rw [List.range_succ, List.map_append, List.map_append]; rfl
      · obtain ⟨s, rfl⟩ := hI
        rw [List.length_map]
        exact ⟨_, rfl⟩
      · obtain ⟨s, rfl⟩ := hM
        exact r_ret (c_tup (a_cons (e_var rfl) a_nil) (.inl rfl)) rfl rfl

def okStart (x : Int) : Bool := decide (0 ≤ x) && decide (x ≤ 1000000)
def okStarts (xs : List Int) : Bool := decide (1 ≤ xs.length ∧ xs.length ≤ 10) && xs.all okStart
inductive R_are_starts : List PyData → PyData → Prop
  | mk (xs : List Int) : R_are_starts [intsD xs] (.bool (okStarts xs))
abbrev s_are_starts : Stmt := top 35
abbrev n_are_starts : List Str := ["value", "start"]
theorem sc_are_starts : FnScope n_are_starts ["value"] (defScope s_are_starts) := ⟨rfl, rfl, rfl, by decide +kernel, rfl, by decide +kernel, by decide +kernel⟩
theorem f_are_starts (G : Gs K mg) (c_is_number : Cal P w K mg base 1 "is_number" R_is_number) (D : DefF K mg "are_starts" s_are_starts) : Cal P w K mg base 2 "are_starts" R_are_starts :=
  cal_of ["value"] D (fun _ _ _ _ _ _ us hl => match us, hl with | [_], _ => rfl) fun f fd Fn => by
    have sc := sc_are_starts
    refine fn_pure Fn sc (fun ds d h => by cases h <;> rfl) fun cdv A outer s H E hr => ?_
    have hu := hr.units
    refine ⟨_, (pss_cons (ps_if (PW.pt (pw_or (pt_not (pt_val (u_isi G (pa_cons (pv 0) (pa_cons (u_ttuple G) pa_nil))))) (pw_or1 (pt_not (pt_chain op_le op_le pe_int (u_len G (pa_cons (pv 0) pa_nil)) (u_gint G.MAX_PEOPLE)))))) (pss_one (ps_ret pe_bl)) pss_nil)
      (pss_one (ps_ret (u_all G (pa_cons (pe_lc (own := [("start", 1)]) (g := gName 1) rfl sc.nd (pi_tup (pv 0)) (blkOk_by (own := [("start", 1)]) (N := n_are_starts) (sc := defScope s_are_starts) (by decide +kernel)) (fun _ _ _ _ _ => (pg_name (i := 1) sc.nd rfl (Or.inl rfl))) (fun _ _ _ _ _ => pts_nil) (fun _ _ _ _ _ => (C8.pe_c c_is_number hr (by decide) (by rfl) (pa_cons (pv 1) (pa_cons pe_int (pa_cons (u_gint G.MAX_START) pa_nil)))))) pa_nil))))), fun ds d h => ?_⟩
    cases h with
    | mk xs =>
      refine r_guard (t_or (t_not (t_test (c_isi (a_cons (e_var rfl) (a_cons e_val a_nil)) rfl (b := true) rfl))) fun _ => t_not (t_test (e_chain e_int (c_len (a_cons (e_var rfl) a_nil) (.inr rfl)) e_int))) (fun h => r_ret e_bl rfl ?_) fun h => ?_
      · show _ = PyData.bool (okStarts xs)
        unfold okStarts
        rw [decide_eq_false (by simp at h; omega)]; rfl
      have ok : 1 ≤ xs.length ∧ xs.length ≤ 10 := by simp at h; omega
      refine r_ret (c_all (bs := xs.map okStart) (a_cons (m_lcm (it_tup (e_var rfl)) (rs := (xs.map okStart).map PyData.bool) (js := [1]) (by simp) (by simp) (fun i d r hd hr => ?_) (by rw [List.length_map]; omega)).d a_nil) rfl) rfl ?_
      · obtain ⟨x, hx, rfl⟩ := map_inv hd
        rw [List.map_map] at hr
        obtain ⟨y, hy, rfl⟩ := map_inv hr
        rw [hx] at hy
        cases hy
        exact ⟨[.int x], g_name, e_c (.mk x 0 1000000) (a_cons (e_var rfl) (a_cons e_int (a_cons e_int a_nil)))⟩
      · show PyData.bool _ = PyData.bool _
        unfold okStarts
        rw [decide_eq_true ok, List.all_map]; rfl

theorem cutD_to {α : Type} (f : α → PyData) (l : List α) (k : Nat) : cutD (l.map f) none (some (k : Int)) = (l.take k).map f := by
  unfold cutD
  rw [HT.sIx_none, HT.sIx_nat, List.drop_zero, Nat.sub_zero, List.map_take]
  rcases Nat.le_total k (l.map f).length with h | h
  · rw [Nat.min_eq_left h]
  · rw [Nat.min_eq_right h, List.take_of_length_le (Nat.le_refl _), List.take_of_length_le h]
theorem keyP_get {ticks : List Int} {i : Nat} {t : Int} (h : ticks[i]? = some t) : (keyP ticks)[i]? = some (0 - t, (i : Int)) := by
  unfold keyP; rw [List.getElem?_mapIdx, h]; rfl
theorem stepT_get {w r : Int} {ticks : List Int} {k i : Nat} {t : Int} (h : ticks[i]? = some t) : (stepT w r ticks k)[i]? = some (t + (if (i : Int) ∈ latest ticks k then r else w)) := by
  unfold stepT; rw [List.getElem?_mapIdx, h]; rfl
theorem map_get {α : Type} {f : α → PyData} {l : List α} {i : Nat} {x : α} {r : PyData} (h : l[i]? = some x) (hr : (l.map f)[i]? = some r) : r = f x := by
  rw [List.getElem?_map, h] at hr; exact (Option.some.inj hr).symm
inductive R_latest_people : List PyData → PyData → Prop
  | mk (ticks : List Int) (k : Nat) (h : ticks.length ≤ 1000) : R_latest_people [intsD ticks, .int (k : Int)] (intsD (latest ticks k))
abbrev s_latest_people : Stmt := top 44
abbrev n_latest_people : List Str := ["ticks", "count", "order", "person", "tick"]
theorem sc_latest_people : FnScope n_latest_people ["ticks", "count"] (defScope s_latest_people) := ⟨rfl, rfl, rfl, by decide +kernel, rfl, by decide +kernel, by decide +kernel⟩
theorem f_latest_people (G : Gs K mg)  (D : DefF K mg "latest_people" s_latest_people) : Cal P w K mg base 1 "latest_people" R_latest_people :=
  cal_of ["ticks", "count"] D (fun _ _ _ _ _ _ us hl => match us, hl with | [_, _], _ => rfl) fun f fd Fn => by
    have sc := sc_latest_people
    refine fn_pure Fn sc (fun ds d h => by cases h <;> rfl) fun cdv A outer s H E hr => ?_
    have hu := hr.units
    refine ⟨_, (pss_cons (ps_set (i := 2) sc.nd rfl (Or.inl rfl) (u_sorted G (pa_cons (pe_lc (own := [("person", 3), ("tick", 4)]) (g := gTup _ 2 (gCons (gName 3) (gCons (gName 4) gNil))) rfl sc.nd (u_enum G (pa_cons (pv 0) pa_nil)) (blkOk_by (own := [("person", 3), ("tick", 4)]) (N := n_latest_people) (sc := defScope s_latest_people) (by decide +kernel)) (fun _ _ _ _ _ => (pg_tup (by rfl) (pgs_cons (pg_name (i := 3) sc.nd rfl (Or.inl rfl)) (pgs_cons (pg_name (i := 4) sc.nd rfl (Or.inl rfl)) pgs_nil)))) (fun _ _ _ _ _ => pts_nil) (fun _ _ _ _ _ => (pe_tup (pa_cons (pe_op op_sub pe_int (pv 4)) (pa_cons (pv 3) pa_nil))))) pa_nil)))
      (pss_one (ps_ret (u_tuple G (pa_cons (u_sorted G (pa_cons (pe_lc (own := [("tick", 4), ("person", 3)]) (g := gTup _ 2 (gCons (gName 4) (gCons (gName 3) gNil))) rfl sc.nd (pi_list (pe_slice (kx_sl G) (pv 2) po_none (po_some (pv 1)))) (blkOk_by (own := [("tick", 4), ("person", 3)]) (N := n_latest_people) (sc := defScope s_latest_people) (by decide +kernel)) (fun _ _ _ _ _ => (pg_tup (by rfl) (pgs_cons (pg_name (i := 4) sc.nd rfl (Or.inl rfl)) (pgs_cons (pg_name (i := 3) sc.nd rfl (Or.inl rfl)) pgs_nil)))) (fun _ _ _ _ _ => pts_nil) (fun _ _ _ _ _ => (pv 3))) pa_nil)) pa_nil))))), fun ds d h => ?_⟩
    cases h with
    | mk ticks k hz =>
      refine r_seq (r_asg (m_sortP (ps := keyP ticks) (qs := sortP (keyP ticks)) (a_cons (m_lcm (it_enumU (a_cons (e_var rfl) a_nil) (.inr rfl)) (rs := (keyP ticks).map pairD) (js := [3, 4]) (by rw [List.length_map, keyP_len, enumD_len, List.length_map]) (by simp) (fun i d r hd hr => ?_) (by rw [enumD_len, List.length_map]; omega)).d a_nil) rfl (fun ms h1 h2 => sortP_one h1 h2)).d rfl rfl) ?_
      · obtain ⟨x, hx, rfl⟩ := enum_inv hd
        obtain ⟨t, ht, rfl⟩ := map_inv hx
        have e := map_get (keyP_get ht) hr
        subst e
        exact ⟨[.int (i : Int), .int t], g_tup (gs_cons g_name (gs_cons g_name gs_nil)), e_tup (ds := [.int (0 - t), .int (i : Int)]) (a_cons (e_sub e_int (e_var rfl)) (a_cons (e_var rfl) a_nil)) (by simp)⟩
      refine r_ret (c_tup (a_cons (m_sortU (ns := ridersU ticks k) (ms := latest ticks k) (a_cons (m_lcm (it_list ((m_slt (e_var rfl) rfl o_none (o_some (e_var rfl))).is (cutD_to pairD (sortP (keyP ticks)) k)).d) (rs := (ridersU ticks k).map PyData.int) (js := [4, 3]) ?_ (by simp) (fun i d r hd hr => ?_) ?_).d a_nil) (.inl rfl) (fun ms h1 h2 => sortI_one h1 h2)).d a_nil) (.inl rfl)) rfl rfl
      · rw [List.length_map, List.length_map, ridersU_len]
        exact (lateP_len ticks k).symm
      · obtain ⟨q, hq, rfl⟩ := map_inv hd
        unfold ridersU at hr
        have hq2 : (lateP ticks k)[i]? = some q := hq
        rw [List.map_map] at hr
        have e := map_get hq2 hr
        subst e
        exact ⟨[.int q.1, .int q.2], g_tup (gs_cons g_name (gs_cons g_name gs_nil)), e_var rfl⟩
      · rw [List.length_map]
        have := lateP_len ticks k
        unfold lateP at this
        rw [this]
        omega

inductive R_leaves_of : List PyData → PyData → Prop
  | mk (ticks riders bic : List Int) (h : ticks.length ≤ 1000) (hr : riders.length ≤ 1000) (hp : ∀ p ∈ riders, ∃ i : Nat, i < ticks.length ∧ p = (i : Int))
      (hw : ∀ (j : Nat) (q : Int × Int) (m : Int), (queueOf ticks riders)[j]? = some q → (sortI bic)[j]? = some m → m ≤ q.1) : R_leaves_of [intsD ticks, intsD riders, .list (bic.map PyData.int)] (.list (ticks.map PyData.int))
theorem atI_ints {l : List Int} {i : Nat} (h : i < l.length) : atI (l.map PyData.int) (i : Int) = some (.int (tk l (i : Int))) := by
  refine atI_nat ?_
  rw [List.getElem?_map, List.getElem?_eq_getElem h, tk_nat h]; rfl
theorem set_same {l : List PyData} {i : Nat} {x : PyData} (h : l[i]? = some x) : l.set i x = l := by
  obtain ⟨hi, e⟩ := List.getElem?_eq_some_iff.mp h
  subst e
  exact List.set_getElem_self hi
theorem queue_mem {ticks riders : List Int} {j : Nat} {q : Int × Int} (h : (queueOf ticks riders)[j]? = some q) : q.2 ∈ riders ∧ q.1 = tk ticks q.2 := by
  have mq := List.mem_of_getElem? h
  obtain ⟨p, hp, e⟩ := List.mem_map.mp ((sortP_perm _).mem_iff.mp mq)
  rw [← e]
  exact ⟨hp, rfl⟩
abbrev s_leaves_of : Stmt := top 36
abbrev n_leaves_of : List Str := ["ticks", "riders", "bicycles", "found", "queue", "tick", "person", "ready"]
theorem sc_leaves_of : FnScope n_leaves_of ["ticks", "riders", "bicycles"] (defScope s_leaves_of) := ⟨rfl, rfl, rfl, by decide +kernel, rfl, by decide +kernel, by decide +kernel⟩
theorem f_leaves_of (G : Gs K mg)  (D : DefF K mg "leaves_of" s_leaves_of) : Cal P w K mg base 1 "leaves_of" R_leaves_of :=
  cal_of ["ticks", "riders", "bicycles"] D (fun _ _ _ _ _ _ us hl => match us, hl with | [_, _, _], _ => rfl) fun f fd Fn => by
    have sc := sc_leaves_of
    refine fn_pure Fn sc (fun ds d h => by cases h <;> rfl) fun cdv A outer s H E hr => ?_
    have hu := hr.units
    refine ⟨_, (pss_cons (ps_set (i := 3) sc.nd rfl (Or.inl rfl) (u_list G (pa_cons (pv 0) pa_nil)))
      (pss_cons (ps_set (i := 4) sc.nd rfl (Or.inl rfl) (u_sorted G (pa_cons (pe_lc (own := [("person", 6)]) (g := gName 6) rfl sc.nd (pi_tup (pv 1)) (blkOk_by (own := [("person", 6)]) (N := n_leaves_of) (sc := defScope s_leaves_of) (by decide +kernel)) (fun _ _ _ _ _ => (pg_name (i := 6) sc.nd rfl (Or.inl rfl))) (fun _ _ _ _ _ => pts_nil) (fun _ _ _ _ _ => (pe_tup (pa_cons (pe_ix (kx_ix G) (pv 0) (pv 6) (fun _ _ => rfl)) (pa_cons (pv 6) pa_nil))))) pa_nil)))
      (pss_cons (ps_for PassesOwn.never rfl (u_zip G (pa_cons (pv 4) (pa_cons (u_sorted G (pa_cons (pv 2) pa_nil)) pa_nil))) (pg_tup (by rfl) (pgs_cons (pg_tup (by rfl) (pgs_cons (pg_name (i := 5) sc.nd rfl (Or.inl rfl)) (pgs_cons (pg_name (i := 6) sc.nd rfl (Or.inl rfl)) pgs_nil))) (pgs_cons (pg_name (i := 7) sc.nd rfl (Or.inl rfl)) pgs_nil))) (pss_one (ps_asg (u_max2 G (pa_cons (pv 5) (pa_cons (pv 7) pa_nil))) (pg_sub (pv 3) (pv 6) set_list))))
      (pss_one (ps_ret (pv 3)))))), fun ds d h => ?_⟩
    cases h with
    | mk ticks riders bic hz hrz hp hw =>
      refine r_seq (r_asgM (m_lstof (a_cons (e_var rfl) a_nil) (.inr rfl)) rfl) ?_
      refine r_seq (r_asg (m_sortP (ps := riders.map fun p => (tk ticks p, p)) (qs := queueOf ticks riders) (a_cons (m_lcm (it_tup (e_var rfl)) (rs := (riders.map fun p => (tk ticks p, p)).map pairD) (js := [6]) (by simp) (by simp) (fun i d r hd hr => ?_) (by rw [List.length_map]; omega)).d a_nil) rfl (fun ms h1 h2 => sortP_one h1 h2)).d rfl rfl) ?_
      · obtain ⟨p, hpi, rfl⟩ := map_inv hd
        rw [List.map_map] at hr
        have e := map_get hpi hr
        subst e
        obtain ⟨j, hj, rfl⟩ := hp p (List.mem_of_getElem? hpi)
        exact ⟨[.int (j : Int)], g_name, e_tup (ds := [.int (tk ticks (j : Int)), .int (j : Int)]) (a_cons (e_ix (e_var rfl) (.inr rfl) (e_var rfl) (atI_ints hj)) (a_cons (e_var rfl) a_nil)) (by simp)⟩
      refine r_seqI (I := fun L' => ∃ s1 s2 s3, L' = [.d (intsD ticks), .d (intsD riders), .d (.list (bic.map PyData.int)), .m (ticks.map PyData.int), .d (.list ((queueOf ticks riders).map pairD)), s1, s2, s3]) (r_for (js := [5, 6, 7]) (it_zipL (ys := (sortI bic).map PyData.int) (a_cons (e_var rfl) (a_cons (m_sortU (ns := bic) (a_cons (e_var rfl) a_nil) (.inl rfl) (fun ms h1 h2 => sortI_one h1 h2)).d a_nil))) (fun i L' => ∃ s1 s2 s3, L' = [.d (intsD ticks), .d (intsD riders), .d (.list (bic.map PyData.int)), .m (ticks.map PyData.int), .d (.list ((queueOf ticks riders).map pairD)), s1, s2, s3]) ⟨_, _, _, rfl⟩ (fun i d L' hd hI => ?_) (fun L' hI => hI)) (fun M hM => ?_)
      · obtain ⟨x, y, hx, hy, rfl⟩ := zip_inv hd
        obtain ⟨q, hq, rfl⟩ := map_inv hx
        obtain ⟨m, hm, rfl⟩ := map_inv hy
        obtain ⟨s1, s2, s3, rfl⟩ := hI
        obtain ⟨q1, q2⟩ := queue_mem hq
        obtain ⟨j, hj, ej⟩ := hp _ q1
        have le := hw i q m hq hm
        refine ⟨[.int q.1, .int q.2, .int m], g_tup (gs_cons (g_tup (gs_cons g_name (gs_cons g_name gs_nil))) (gs_cons g_name gs_nil)), ?_⟩
        refine r_setI (xs := ticks.map PyData.int) (d := .int q.1) (k := q.2) (j := j) rfl ((c_max2 (i := q.1) (j := m) (a_cons (e_var rfl) (a_cons (e_var rfl) a_nil))).is (by rw [if_neg (by omega)])) (e_var rfl) ?_ ⟨.d (.int q.1), .d (.int q.2), .d (.int m), ?_⟩
        · rw [ej, List.length_map]; exact Evl.ixN_nat hj
        · rw [set_same (by rw [List.getElem?_map, List.getElem?_eq_getElem hj, q2, ej, tk_nat hj]; rfl)]; rfl
      · obtain ⟨s1, s2, s3, rfl⟩ := hM
        exact r_retM (e_var rfl) rfl

theorem any_ints (l : List Int) (i : Int) : ((l.map PyData.int).any fun y => PyData.eqv y (.int i)) = decide (i ∈ l) := by
  rw [List.any_map, Bool.eq_iff_iff, List.any_eq_true, decide_eq_true_eq]
  constructor
  · rintro ⟨y, hy, e⟩
    have e : (y == i) = true := by simpa [PyData.eqv] using e
    rw [← eq_of_beq e]; exact hy
  · intro h
    exact ⟨i, h, by simp [PyData.eqv]⟩
theorem flat_ints (l : List Int) : (l.map PyData.int).all flatD = true := by
  rw [List.all_map, List.all_eq_true]; exact fun _ _ => rfl
theorem sum_pos : ∀ {l : List Int}, (∀ b ∈ l, 0 ≤ b) → 0 ≤ l.sum
  | [], _ => by simp
  | b :: l, h => by
    rw [List.sum_cons]
    have := sum_pos fun x hx => h x (List.mem_cons_of_mem _ hx)
    have := h b List.mem_cons_self
    omega
theorem cnt_pos {bs : List Int} (h : ∀ b ∈ bs, 0 ≤ b) (i : Nat) : 0 ≤ cnt bs i := sum_pos fun b hb => h b (List.mem_of_mem_take hb)
theorem cnt_nat {bs : List Int} (h : ∀ b ∈ bs, 0 ≤ b) (i : Nat) : ((cnt bs i).toNat : Int) = cnt bs i := Int.toNat_of_nonneg (cnt_pos h i)
def planD (w r : Int) (bs starts : List Int) : List PyData := (List.range bs.length).map fun i => intsD (planAt w r bs starts i)
inductive R_rule_plan : List PyData → PyData → Prop
  | mk (w r : Int) (bs starts : List Int) (hb : bs.length ≤ 1000) (hs : starts.length ≤ 1000) (h0 : ∀ b ∈ bs, 0 ≤ b) : R_rule_plan [roadD w r bs, intsD starts] (.tuple (planD w r bs starts))
abbrev s_rule_plan : Stmt := top 45
abbrev n_rule_plan : List Str := ["road", "starts", "walk", "ride", "bikes", "ticks", "found", "count", "riders", "person", "tick"]
theorem sc_rule_plan : FnScope n_rule_plan ["road", "starts"] (defScope s_rule_plan) := ⟨rfl, rfl, rfl, by decide +kernel, rfl, by decide +kernel, by decide +kernel⟩
theorem f_rule_plan (G : Gs K mg) (c_counts_of : Cal P w K mg base 1 "counts_of" R_counts_of) (c_latest_people : Cal P w K mg base 1 "latest_people" R_latest_people) (D : DefF K mg "rule_plan" s_rule_plan) : Cal P w K mg base 2 "rule_plan" R_rule_plan :=
  cal_of ["road", "starts"] D (fun _ _ _ _ _ _ us hl => match us, hl with | [_, _], _ => rfl) fun f fd Fn => by
    have sc := sc_rule_plan
    refine fn_pure Fn sc (fun ds d h => by cases h <;> rfl) fun cdv A outer s H E hr => ?_
    have hu := hr.units
    refine ⟨_, (pss_cons (ps_asg (pv 0) (pg_tup (by rfl) (pgs_cons (pg_name (i := 2) sc.nd rfl (Or.inr rfl)) (pgs_cons (pg_name (i := 3) sc.nd rfl (Or.inr rfl)) (pgs_cons (pg_name (i := 4) sc.nd rfl (Or.inl rfl)) pgs_nil)))))
      (pss_cons (ps_par (i := 5) (j := 6) rfl sc.nd rfl rfl (by decide) rfl rfl (pa_cons (pv 1) (pa_cons (pe_lst pa_nil) pa_nil)) (by rfl))
      (pss_cons (ps_for PassesOwn.never rfl (pi_tup (C8.pe_c c_counts_of hr (by decide) (by rfl) (pa_cons (pv 0) pa_nil))) (pg_name (i := 7) sc.nd rfl (Or.inl rfl)) (pss_cons (ps_set (i := 8) sc.nd rfl (Or.inr rfl) (C8.pe_c c_latest_people hr (by decide) (by rfl) (pa_cons (pv 5) (pa_cons (pv 7) pa_nil))))
      (pss_cons (ps_set (i := 5) sc.nd rfl (Or.inl rfl) (u_tuple G (pa_cons (pe_lc (own := [("person", 9), ("tick", 10)]) (g := gTup _ 2 (gCons (gName 9) (gCons (gName 10) gNil))) rfl sc.nd (u_enum G (pa_cons (pv 5) pa_nil)) (blkOk_by (own := [("person", 9), ("tick", 10)]) (N := n_rule_plan) (sc := defScope s_rule_plan) (by decide +kernel)) (fun _ _ _ _ _ => (pg_tup (by rfl) (pgs_cons (pg_name (i := 9) sc.nd rfl (Or.inl rfl)) (pgs_cons (pg_name (i := 10) sc.nd rfl (Or.inl rfl)) pgs_nil)))) (fun _ _ _ _ _ => pts_nil) (fun _ _ _ _ _ => (pe_op (kx_add G) (pv 10) (pe_ifExp (pt_cmpR (kx_in G) (pv 9) (pv 8) (by rfl)) (pv 3) (pv 2))))) pa_nil)))
      (pss_one (ps_expr (pe_bm PySem.F.plainAttrs_list PySem.F.slot_list_append PySem.F.type_list_append mt_append (pv 6) (pa_cons (pv 8) pa_nil)))))))
      (pss_one (ps_ret (u_tuple G (pa_cons (pv 6) pa_nil))))))), fun ds d h => ?_⟩
    cases h with
    | mk w r bs starts hb hs h0 =>
      refine r_seq (r_asgT (e_var rfl) (g_tup (gs_cons g_name (gs_cons g_name (gs_cons g_name gs_nil)))) rfl) ?_
      refine r_seq (r_parM (e_var rfl) (m_lst (ds := []) a_nil (by decide)) rfl rfl) ?_
      refine r_seqI (I := fun L' => ∃ s5 s7 s8, L' = [.d (roadD w r bs), .d (intsD starts), .d (.int w), .d (.int r), .d (intsD bs), s5, .m (planD w r bs starts), s7, s8, .u, .u]) (r_for (js := [7]) (it_tup (e_c (.mk w r bs hb) (a_cons (e_var rfl) a_nil)))
        (fun i L' => ∃ s7 s8, L' = [.d (roadD w r bs), .d (intsD starts), .d (.int w), .d (.int r), .d (intsD bs), .d (intsD (ticksAt w r bs starts i)), .m ((List.range i).map fun i => intsD (planAt w r bs starts i)), s7, s8, .u, .u]) ⟨_, _, rfl⟩ (fun i d L' hd hI => ?_) (fun L' hI => ?_)) (fun M hM => ?_)
      · obtain ⟨c, hc, rfl⟩ := map_inv hd
        have hlt := (List.getElem?_eq_some_iff.mp hc).1
        rw [List.getElem?_map, List.getElem?_range (by simpa using hlt)] at hc
        have hc : cnt bs i = c := Option.some.inj hc
        rw [← cnt_nat h0 i] at hc
        subst hc
        obtain ⟨s7, s8, rfl⟩ := hI
        have lt : (ticksAt w r bs starts i).length ≤ 1000 := by rw [ticksAt_len]; exact hs
        refine ⟨[.int ((cnt bs i).toNat : Int)], g_name, ?_⟩
        refine r_seq (r_asg (e_c (.mk (ticksAt w r bs starts i) (cnt bs i).toNat lt) (a_cons (e_var rfl) (a_cons (e_var rfl) a_nil))) rfl rfl) ?_
        refine r_seq (r_asg (c_tup (xs := (ticksAt w r bs starts (i + 1)).map PyData.int) (a_cons (m_lcm (it_enumU (a_cons (e_var rfl) a_nil) (.inr rfl)) (js := [9, 10]) (by rw [List.length_map, ticksAt_len, enumD_len, List.length_map, ticksAt_len]) (by simp) (fun j d r' hd hr => ?_) (by rw [enumD_len, List.length_map]; omega)).d a_nil) (.inl rfl)) rfl rfl) ?_
        · obtain ⟨x, hx, rfl⟩ := enum_inv hd
          obtain ⟨t, ht, rfl⟩ := map_inv hx
          have e := map_get (stepT_get (w := w) (r := r) (k := (cnt bs i).toNat) ht) hr
          subst e
          refine ⟨[.int (j : Int), .int t], g_tup (gs_cons g_name (gs_cons g_name gs_nil)), e_add (e_var rfl) (e_if (b := decide ((j : Int) ∈ planAt w r bs starts i)) ((t_test (e_in (e_var rfl) (e_var rfl) (.inr rfl) rfl (flat_ints _))).is (any_ints _ _)) (fun h => (e_var rfl).is ?_) fun h => (e_var rfl).is ?_)⟩
          · rw [if_pos (show (j : Int) ∈ latest _ _ from of_decide_eq_true h)]
          · rw [if_neg (show ¬ (j : Int) ∈ latest _ _ from of_decide_eq_false h)]
        refine r_app (d := intsD (planAt w r bs starts i)) rfl (e_var rfl) (by simp at hlt ⊢; omega) ⟨.d (.int ((cnt bs i).toNat : Int)), .d (intsD (planAt w r bs starts i)), ?_⟩
        rw [List.range_succ, List.map_append]; rfl
      · obtain ⟨s7, s8, rfl⟩ := hI
        rw [List.length_map, List.length_map, List.length_range]
        exact ⟨_, _, _, rfl⟩
      · obtain ⟨s5, s7, s8, rfl⟩ := hM
        exact r_ret (c_tup (a_cons (e_var rfl) a_nil) (.inl rfl)) rfl rfl
end
end K45
-- B8
set_option maxHeartbeats 4000000
namespace K45
open PySem PySem.Spec PyProof.Rows L2
open Evl (Ex ex_rd ex_l ex_t)
/-! ### texts -/
section
variable {K : PySem.W.Frag} {F : Fx} {L : List Sl} {ta tb : TE} {t : Sl}
theorem m_split {x y : Str} (ha : EvE F ta L (.d (.str x))) (hb : EvE F tb L (.d (.str y))) (hy : (y.length == 0) = false) (hx : x.length ≤ 10000) :
    EvM F (tM1 (fun x xs H Q => ∃ a b, x = .str a ∧ xs = [.str b] ∧ (b.length == 0) = false ∧ a.length + 2 ≤ sizeLine ∧ rNewStrs (Txt.split a b) H Q) ta tb) L ((Txt.split x y).map PyData.str) := by
  intro H0 B0 B H σ f g E Q q
  refine ha H0 B0 B H σ f g E _ fun v B1 H1 g1 o1 => ?_
  obtain rfl := dp_str o1
  refine ⟨⟨x, rfl⟩, hb H0 B0 B1 H1 σ f (g.trans g1) (E.mono g1) _ fun w B2 H2 g2 o2 => ?_⟩
  obtain rfl := dp_str o2
  refine ⟨x, y, rfl, rfl, hy, Nat.le_trans (Nat.add_le_add_right hx 2) (by decide), fun p hp => ?_⟩
  have gg := g1.trans g2
  exact q p _ B2 _ (gg.trans (Grow.side gg.bh hp)) (Evl.fresh_back gg.hh hp) (Evl.fresh_back gg.bh hp) upd_same (RpAll.of_strs _)
theorem e_join {x : Str} {ys : List Str} (ha : EvE F ta L (.d (.str x))) (hb : EvE F tb L t) (ht : t.data = some (.list (ys.map PyData.str))) (hz : (ys.map (·.length)).sum + ys.length * x.length ≤ 16777216) :
    EvE F (tM1 (fun x xs H Q => ∃ a p, ∃ ys : List Str, x = .str a ∧ xs = [.ref p] ∧ (SqL K H p (ys.map V.str) ∨ SqT K H p (ys.map V.str)) ∧ (ys.map (·.length)).sum + ys.length * a.length ≤ 16777216 ∧ Q (.str (Txt.join a ys)) H) ta tb) L (.d (.str (Txt.join x ys))) := by
  intro H0 B0 B H σ f g E Q q
  refine ha H0 B0 B H σ f g E _ fun v B1 H1 g1 o1 => ?_
  obtain rfl := dp_str o1
  refine ⟨⟨x, rfl⟩, hb H0 B0 B1 H1 σ f (g.trans g1) (E.mono g1) _ fun w B2 H2 g2 o2 => ?_⟩
  obtain ⟨a, vs, rfl, ea, ra⟩ := o2.lst g2.bh ht
  have e := RpAll.strs' ra
  subst e
  exact ⟨x, a, ys, rfl, rfl, .inl (SqL.of ea), hz, q _ B2 H2 (g1.trans g2) (.str _)⟩
end
section
variable {K : PySem.W.Frag} {F : Fx} {L : List Sl} {P : Post} {ta tb tc : TE} {s u : Sl}
/-- a, b, c = [..], [..], e: two new lists that will be changed -/
theorem r_par3 {i j l : Nat} {xs ys : List PyData} (h1 : EvM F ta L xs) (h2 : EvM F tb L ys) (h3 : EvE F tc L s) (hs : isM s = false) (hij : i ≠ j) (hL2 : L.all (fun u => !isM u) = true)
    (k : P.nx (((L.set i (.m xs)).set j (.m ys)).set l s)) : RunE F (tPar3 i j l (tCons ta (tCons tb (tCons tc tNil)))) L P := fun H0 B0 B H σ D f g E n r b c =>
  h1 H0 B0 B H σ f g E _ fun l1 v1 B1 H1 g1 hl1 bl1 el1 r1 => h2 H0 B0 B1 H1 σ f (g.trans g1) (E.mono g1) _ fun l2 v2 B2 H2 g2 hl2 bl2 el2 r2 => h3 H0 B0 B2 H2 σ f ((g.trans g1).trans g2) ((E.mono g1).mono g2) _ fun w B3 H3 g3 o3 => by
    have e1 := g3.hh _ _ (g2.hh _ _ el1)
    have b1 := g3.nw _ _ (g2.hh _ _ el1) (g2.nw _ _ el1 bl1)
    have e2 := g3.hh _ _ el2
    have b2 := g3.nw _ _ el2 bl2
    have gg := (g1.trans g2).trans g3
    have none : ∀ (q : Nat) (y : Sl), L[q]? = some y → isM y = true → False := fun q y hy my => by
      have := List.all_eq_true.mp hL2 y (List.mem_of_getElem? hy)
      rw [my] at this; cases this
    have E1 := ((((E.mono g1).mono g2).mono g3).setM (i := i) (Evl.fresh_back g.hh hl1) b1 e1 (dpa_mono (g2.bb.trans g3.bb) r1) fun q y _ hy my _ => none q y hy my)
    have E2 := E1.setM (i := j) (Evl.fresh_back (g.trans g1).hh hl2) b2 e2 (dpa_mono g3.bb r2) fun q y hq hy my z => by
      by_cases hiq : i = q
      · subst hiq
        have hlt : i < σ.length := by
          have := (List.getElem?_eq_some_iff.mp z).1
          rwa [List.length_set] at this
        rw [List.getElem?_set_self hlt] at z
        have : l1 = l2 := by simpa using z
        subst this
        rw [el1] at hl2; cases hl2
      · rw [List.getElem?_set_ne hiq] at hy
        exact none q y hy my
    exact ⟨_, _, _, rfl, n _ B3 H3 _ k (g.trans gg) gg.bb (E2.set (i := l) o3 hs)⟩
end
def optD : Option Int → PyData
  | some n => .int n
  | none => .none
def tupO : Option (List Int) → PyData
  | some l => intsD l
  | none => .none
theorem fig_mem (c : Nat) : decide (c ∈ (Str.ofString "0123456789").cps.toList) = isDig c := by
  have e : (Str.ofString "0123456789").cps.toList = [48, 49, 50, 51, 52, 53, 54, 55, 56, 57] := by decide +kernel
  rw [e]
  unfold isDig
  rw [Bool.eq_iff_iff, decide_eq_true_eq, Bool.and_eq_true, decide_eq_true_eq, decide_eq_true_eq]
  simp
  omega
theorem one_eq (c d : Nat) : decide ((⟨#[c]⟩ : Str) = ⟨#[d]⟩) = decide (c = d) := by
  by_cases h : c = d
  · subst h; simp
  · rw [decide_eq_false h, decide_eq_false]
    intro e
    have := congrArg (fun x : Str => x.cps.toList) e
    simp at this
    exact h this
theorem str_eq_tl {x : Str} {l : List Nat} : decide (x = ⟨l.toArray⟩) = decide (tl x = l) := by
  by_cases h : tl x = l
  · rw [decide_eq_true h, decide_eq_true]
    exact TL.ext_tl h
  · rw [decide_eq_false h, decide_eq_false]
    intro e
    subst e
    exact h rfl
section
variable {P : Program} {w : World} {K : PySem.W.Frag} {mg : Str → Option Value} {base : Heap}
inductive R_parse_number : List PyData → PyData → Prop
  | mk (x : Str) (hx : x.length ≤ 10000) : R_parse_number [.str x] (optD (canon8 x))
theorem Str_big {x : Str} (h : x.length ≤ 10000) : x.length ≤ sizeLine := Nat.le_trans h (by decide)
abbrev s_parse_number : Stmt := top 54
abbrev n_parse_number : List Str := ["word", "figure"]
theorem sc_parse_number : FnScope n_parse_number ["word"] (defScope s_parse_number) := ⟨rfl, rfl, rfl, by decide +kernel, rfl, by decide +kernel, by decide +kernel⟩
theorem f_parse_number (G : Gs K mg)  (D : DefF K mg "parse_number" s_parse_number) : Cal P w K mg base 1 "parse_number" R_parse_number :=
  cal_of ["word"] D (fun _ _ _ _ _ _ us hl => match us, hl with | [_], _ => rfl) fun f fd Fn => by
    have sc := sc_parse_number
    refine fn_pure Fn sc (fun ds d h => by cases h <;> rfl) fun cdv A outer s H E hr => ?_
    have hu := hr.units
    refine ⟨_, (pss_cons (ps_if (PW.pt (pw_or (pt_not (pt_chain op_le op_le pe_int (u_len G (pa_cons (pv 0) pa_nil)) (u_gint G.LONGEST))) (pw_or1 (pt_not (pt_val (u_all G (pa_cons (pe_lc (own := [("figure", 1)]) (g := gName 1) rfl sc.nd (pi_str (pv 0)) (blkOk_by (own := [("figure", 1)]) (N := n_parse_number) (sc := defScope s_parse_number) (by decide +kernel)) (fun _ _ _ _ _ => (pg_name (i := 1) sc.nd rfl (Or.inl rfl))) (fun _ _ _ _ _ => pts_nil) (fun _ _ _ _ _ => (pe_cmpR (kx_in G) (pv 1) (u_gstr G.FIGURES) (by rfl)))) pa_nil))))))) (pss_one (ps_ret pe_non)) pss_nil)
      (pss_one (ps_ret (pe_ifExp (PW.pt (pw_and (pt_cmpR (kx_eq G hu) (pe_ix (kx_ix G) (pv 0) pe_int (fun _ _ => rfl)) pe_str (nomark _)) (pw_and1 (pt_cmpR (kx_ne G hu) (pv 0) pe_str (nomark _))))) pe_non (u_int G (pa_cons (pv 0) pa_nil)))))), fun ds d h => ?_⟩
    cases h with
    | mk x hx =>
      have hl := len_tl x
      refine r_guard (b := (!(decide (1 ≤ (x.length : Int)) && decide ((x.length : Int) ≤ 8)) || !((tl x).map isDig).all id)) (t_or (t_not (t_test (e_chain e_int (c_lens (a_cons (e_var rfl) a_nil) (Str_big hx)) e_int))) fun _ => t_not (t_test (c_all (bs := (tl x).map isDig) (a_cons (m_lcm (it_str (e_var rfl)) (rs := ((tl x).map isDig).map PyData.bool) (js := [1]) (by simp [signs]) (by simp) (fun i d r hd hr => ?_) (by simp [signs]; simp at hl; omega)).d a_nil) rfl))) (fun h => r_ret e_non rfl ?_) fun h => ?_
      · unfold signs at hd
        obtain ⟨c, hc, rfl⟩ := map_inv hd
        rw [List.map_map] at hr
        have e := map_get hc hr
        subst e
        exact ⟨[.str ⟨#[c]⟩], g_name, (e_ins (e_var rfl) e_str).is (by rw [fig_mem]; rfl)⟩
      · show PyData.none = optD (canon8 x)
        rw [Bool.or_eq_true, Bool.not_eq_true', Bool.not_eq_true', Bool.and_eq_false_iff, decide_eq_false_iff_not, decide_eq_false_iff_not, List.all_map] at h
        unfold canon8 canon canonL
        split
        · rw [if_pos]
          · rfl
          · rw [Bool.or_eq_true, Bool.or_eq_true, List.isEmpty_iff]
            rcases h with (h | h) | h
            · left; left
              exact List.eq_nil_of_length_eq_zero (by omega)
            · omega
            · left; right
              rw [Bool.not_eq_true']; exact h
        · rfl
      · rw [Bool.or_eq_false_iff, Bool.not_eq_false', Bool.not_eq_false', Bool.and_eq_true, decide_eq_true_eq, decide_eq_true_eq, List.all_map] at h
        obtain ⟨⟨h1, h2⟩, h3⟩ := h
        cases e : tl x with
        | nil => rw [e] at hl; simp at hl; omega
        | cons c l =>
          have h3 : (tl x).all isDig = true := h3
          have cv : canon8 x = if lead (c :: l) then none else some ((NumText.digitsVal (tl x) : Nat) : Int) := by
            unfold canon8 canon canonL
            rw [if_pos (by omega), h3, e]
            simp
          refine r_ret (e_if (b := lead (c :: l)) ((t_and (t_test (e_eqS (e_ixs (c := c) (e_var rfl) e_int (Str_big hx) ?_) e_str)) fun _ => t_test (e_neS (e_var rfl) e_str)).is ?_) (fun h => e_non.is ?_) fun h => (c_intS (n := ((NumText.digitsVal (tl x) : Nat) : Int)) (a_cons (e_var rfl) a_nil) ?_ (by omega)).is ?_) rfl rfl
          · show atI (tl x) 0 = some c
            rw [e]; exact atI_nat (j := 0) rfl
          · show (decide ((⟨#[c]⟩ : Str) = ⟨#[48]⟩) && !decide (x = ⟨[48].toArray⟩)) = _
            rw [one_eq, str_eq_tl, e]
            unfold lead
            simp
          · rw [cv, if_pos h]; rfl
          · refine intText_digits (fun c hc => ?_) ?_ (by omega)
            · have := List.all_eq_true.mp h3 c hc
              unfold isDig at this
              simpa using this
            · show tl x ≠ []
              rw [e]; exact List.cons_ne_nil _ _
          · rw [cv, if_neg (by rw [h]; decide)]; rfl

theorem none_any (l : List (Option Int)) : (l.map optD).any (fun y => PyData.eqv y .none) = l.any Option.isNone := by
  rw [List.any_map]
  congr 1
  funext o
  cases o <;> simp [optD, PyData.eqv]
theorem opt_flat (l : List (Option Int)) : (l.map optD).all flatD = true := by
  rw [List.all_map, List.all_eq_true]
  intro o _
  cases o <;> rfl
theorem allSome_any {α : Type} {f : α → Option Int} (l : List α) : (l.map f).any Option.isNone = (allSome f l).isNone := by
  cases h : allSome f l with
  | none =>
    obtain ⟨x, hx, e⟩ := allSome_none.mp h
    exact List.any_eq_true.mpr ⟨none, List.mem_map.mpr ⟨x, hx, e⟩, rfl⟩
  | some m =>
    rw [allSome_some.mp h, List.any_map]
    show _ = false
    rw [List.any_eq_false]
    intro x _
    exact Bool.false_ne_true
theorem map_opt {l : List Int} : (l.map some).map optD = l.map PyData.int := by rw [List.map_map]; rfl
inductive R_parse_numbers : List PyData → PyData → Prop
  | mk (x : Str) (c : Nat) (hc : c < 256) (hx : Tx x) : R_parse_numbers [.str x, .str ⟨#[c]⟩] (tupO (allSome canon8 (Txt.split x ⟨#[c]⟩)))
abbrev s_parse_numbers : Stmt := top 55
abbrev n_parse_numbers : List Str := ["word", "mark", "numbers", "part"]
theorem sc_parse_numbers : FnScope n_parse_numbers ["word", "mark"] (defScope s_parse_numbers) := ⟨rfl, rfl, rfl, by decide +kernel, rfl, by decide +kernel, by decide +kernel⟩
theorem f_parse_numbers (G : Gs K mg) (c_parse_number : Cal P w K mg base 1 "parse_number" R_parse_number) (D : DefF K mg "parse_numbers" s_parse_numbers) : Cal P w K mg base 2 "parse_numbers" R_parse_numbers :=
  cal_of ["word", "mark"] D (fun _ _ _ _ _ _ us hl => match us, hl with | [_, _], _ => rfl) fun f fd Fn => by
    have sc := sc_parse_numbers
    refine fn_pure Fn sc (fun ds d h => by cases h <;> rfl) fun cdv A outer s H E hr => ?_
    have hu := hr.units
    refine ⟨_, (pss_cons (ps_set (i := 2) sc.nd rfl (Or.inl rfl) (u_tuple G (pa_cons (pe_lc (own := [("part", 3)]) (g := gName 3) rfl sc.nd (pi_list (pe_split (pv 0) (pv 1))) (blkOk_by (own := [("part", 3)]) (N := n_parse_numbers) (sc := defScope s_parse_numbers) (by decide +kernel)) (fun _ _ _ _ _ => (pg_name (i := 3) sc.nd rfl (Or.inl rfl))) (fun _ _ _ _ _ => pts_nil) (fun _ _ _ _ _ => (C8.pe_c c_parse_number hr (by decide) (by rfl) (pa_cons (pv 3) pa_nil)))) pa_nil)))
      (pss_one (ps_ret (pe_ifExp (pt_cmpR (kx_in G) pe_non (pv 2) (by rfl)) pe_non (pv 2))))), fun ds d h => ?_⟩
    cases h with
    | mk x c hc hx =>
      refine r_seq (r_asg (c_tup (xs := ((Txt.split x ⟨#[c]⟩).map canon8).map optD) (a_cons (m_lcm (it_list (m_split (e_var rfl) (e_var rfl) rfl hx.len).d) (js := [3]) (by simp) (by simp) (fun i d r hd hr => ?_) (by rw [List.length_map]; have := hx.parts ⟨#[c]⟩; omega)).d a_nil) (.inl rfl)) rfl rfl) ?_
      · obtain ⟨p, hp, rfl⟩ := map_inv hd
        rw [List.map_map] at hr
        have e := map_get hp hr
        subst e
        exact ⟨[.str p], g_name, e_c (.mk p (hx.part hc (List.mem_of_getElem? hp)).len) (a_cons (e_var rfl) a_nil)⟩
      · refine r_ret (e_if (b := (allSome canon8 (Txt.split x ⟨#[c]⟩)).isNone) ((t_test (e_in e_non (e_var rfl) (.inr rfl) rfl (opt_flat _))).is (by rw [none_any, allSome_any])) (fun h => e_non.is ?_) fun h => (e_var rfl).is ?_) rfl rfl
        · rw [Option.isNone_iff_eq_none.mp h]; rfl
        · cases e : allSome canon8 (Txt.split x ⟨#[c]⟩) with
          | none => rw [e] at h; cases h
          | some l => rw [allSome_some.mp e, map_opt]; rfl

/-- the first word -/
def tickW (x : Str) : Option (List Int) := match Txt.split x slash with
  | [a, b] => match canon a, canon b with
    | some w, some r => if okTicks w r then some [w, r] else none
    | _, _ => none
  | _ => none
theorem okTicks_le {w r : Int} (h : okTicks w r = true) : w ≤ 1000 ∧ r ≤ 1000 ∧ 1 ≤ r ∧ 1 ≤ w ∧ r < w := by
  unfold okTicks at h
  simp at h
  omega
theorem okRoad0 (w r : Int) : okRoad w r [0] = okTicks w r := by
  unfold okRoad
  have e : ([0] : List Int).all okBike = true := by decide
  rw [e]
  simp
theorem tickW_of {x : Str} {l : List Int} (h : allSome canon8 (Txt.split x slash) = some l) (hl : l.length = 2) : ∃ w r, l = [w, r] ∧ tickW x = if okTicks w r then some [w, r] else none := by
  have a := allSome_some.mp h
  cases l with
  | nil => cases hl
  | cons w l =>
    cases l with
    | nil => cases hl
    | cons r l =>
      cases l with
      | cons _ _ => cases hl
      | nil =>
        refine ⟨w, r, rfl, ?_⟩
        unfold tickW
        generalize Txt.split x slash = ps at a
        cases ps with
        | nil => simp at a
        | cons p ps =>
          cases ps with
          | nil => simp at a
          | cons q ps =>
            cases ps with
            | cons _ _ => simp at a
            | nil =>
              have a1 : canon8 p = some w := (List.cons.inj a).1
              have a2 : canon8 q = some r := (List.cons.inj (List.cons.inj a).2).1
              simp only [canon8_le a1, canon8_le a2]
theorem tickW_no {x : Str} (h : allSome canon8 (Txt.split x slash) = none ∨ ∃ l, allSome canon8 (Txt.split x slash) = some l ∧ l.length ≠ 2) : tickW x = none := by
  unfold tickW
  generalize Txt.split x slash = ps at h
  split
  · rename_i a b
    split
    · rename_i w r e1 e2
      split
      · rename_i ok
        obtain ⟨k1, k2, k3, k4, k5⟩ := okTicks_le ok
        have c1 := canon8_of e1 (by omega)
        have c2 := canon8_of e2 (by omega)
        have e : allSome canon8 [a, b] = some [w, r] := by
          rw [allSome_some]
          show [canon8 a, canon8 b] = _
          rw [c1, c2]; rfl
        rw [e] at h
        rcases h with h | ⟨l, h, hl⟩
        · cases h
        · cases h; exact absurd rfl hl
      · rfl
    · rfl
  · rfl
inductive R_parse_ticks : List PyData → PyData → Prop
  | mk (x : Str) (hx : Tx x) : R_parse_ticks [.str x] (tupO (tickW x))
abbrev s_parse_ticks : Stmt := top 56
abbrev n_parse_ticks : List Str := ["word", "numbers"]
theorem sc_parse_ticks : FnScope n_parse_ticks ["word"] (defScope s_parse_ticks) := ⟨rfl, rfl, rfl, by decide +kernel, rfl, by decide +kernel, by decide +kernel⟩
theorem f_parse_ticks (G : Gs K mg) (c_parse_numbers : Cal P w K mg base 2 "parse_numbers" R_parse_numbers) (c_is_road : Cal P w K mg base 4 "is_road" R_is_road) (D : DefF K mg "parse_ticks" s_parse_ticks) : Cal P w K mg base 5 "parse_ticks" R_parse_ticks :=
  cal_of ["word"] D (fun _ _ _ _ _ _ us hl => match us, hl with | [_], _ => rfl) fun f fd Fn => by
    have sc := sc_parse_ticks
    refine fn_pure Fn sc (fun ds d h => by cases h <;> rfl) fun cdv A outer s H E hr => ?_
    have hu := hr.units
    refine ⟨_, (pss_cons (ps_set (i := 1) sc.nd rfl (Or.inl rfl) (C8.pe_c c_parse_numbers hr (by decide) (by rfl) (pa_cons (pv 0) (pa_cons (u_gstr G.SLASH) pa_nil))))
      (pss_cons (ps_if (PW.pt (pw_or (pt_cmp (pc_isN (pv 1)) (by rfl)) (pw_or (pt_cmpR (kx_ne G hu) (u_len G (pa_cons (pv 1) pa_nil)) pe_int (nomark _)) (pw_or1 (pt_not (pt_val (C8.pe_c c_is_road hr (by decide) (by rfl) (pa_cons (pe_tup (StX.pa_star (pv 1) (pa_cons (pe_tup (pa_cons pe_int pa_nil)) pa_nil))) pa_nil)))))))) (pss_one (ps_ret pe_non)) pss_nil)
      (pss_one (ps_ret (pv 1))))), fun ds d h => ?_⟩
    cases h with
    | mk x hx =>
      refine r_seq (r_asg (e_c (.mk x 47 (by decide) hx) (a_cons (e_var rfl) (a_cons e_str a_nil))) rfl rfl) ?_
      cases e : allSome canon8 (Txt.split x ⟨#[47]⟩) with
      | none =>
        have e2 := tickW_no (x := x) (.inl e)
        refine r_guard (b := true) ((t_or (c := true) (t_test (e_isN (x := .none) (e_var rfl))) fun h => absurd h (by decide)).is (c := true) rfl) (fun _ => r_ret e_non rfl ?_) fun h => nomatch h
        · rw [e2]; rfl
      | some l =>
        by_cases h2 : l.length = 2
        · obtain ⟨w, r, rfl, e2⟩ := tickW_of e h2
          refine r_guard (b := !okTicks w r) ((t_or (c := !okTicks w r) (t_test (e_isN (e_var rfl))) fun _ => (t_or (t_test (e_neI (c_len (a_cons (e_var rfl) a_nil) (.inr rfl)) e_int)) fun _ => t_not (t_test (e_c (.mk w r [0]) (a_cons (e_tup (ds := [.int w, .int r, intsD [0]]) (a_star (xs := [.int w, .int r]) (e_var rfl) (.inr rfl) (a_cons (e_tup (ds := [.int 0]) (a_cons e_int a_nil) (by decide)) a_nil)) (by simp)) a_nil)))).is ?_).is ?_) (fun h => r_ret e_non rfl ?_) fun h => r_ret (e_var rfl) rfl ?_
          · rw [okRoad0]; rfl
          · rfl
          · rw [e2, if_neg (by rw [Bool.not_eq_true'] at h; rw [h]; decide)]; rfl
          · rw [e2, if_pos (by rw [Bool.not_eq_false'] at h; exact h)]
        · have e2 := tickW_no (x := x) (.inr ⟨l, e, h2⟩)
          refine r_guard (b := true) ((t_or (c := true) (t_test (e_isN (e_var rfl))) fun _ => (t_or (b := true) ((t_test (e_neI (c_len (xs := l.map PyData.int) (a_cons (e_var rfl) a_nil) (.inr rfl)) e_int)).is ?_) fun h => nomatch h).is (b := true || true) rfl).is rfl) (fun _ => r_ret e_non rfl ?_) fun h => nomatch h
          · rw [List.length_map, Bool.not_eq_true', decide_eq_false_iff_not]; omega
          · rw [e2]; rfl

theorem nums12 (x : Str) : numsW 12 12 x = match nums8 x with
    | some l => if okRoad 2 1 l then some l else none
    | none => none := by
  rw [← nums8_eq (most := 12) (hi := 12) (by decide) x]
  cases nums8 x with
  | none => rfl
  | some l =>
    show (if _ then some l else none) = if _ then some l else none
    have e : okTicks 2 1 = true := by decide
    by_cases h : (1 ≤ l.length ∧ l.length ≤ 12) ∧ l.all (fun n => decide (0 ≤ n) && decide (n ≤ 12)) = true
    · rw [if_pos h, if_pos]
      unfold okRoad
      rw [e, decide_eq_true h.1]
      exact h.2
    · rw [if_neg h, if_neg]
      intro z
      unfold okRoad at z
      rw [e, Bool.true_and, Bool.and_eq_true, decide_eq_true_eq] at z
      exact h z
theorem nums10 (x : Str) : numsW 10 1000000 x = match nums8 x with
    | some l => if okStarts l then some l else none
    | none => none := by
  rw [← nums8_eq (most := 10) (hi := 1000000) (by decide) x]
  cases nums8 x with
  | none => rfl
  | some l =>
    show (if _ then some l else none) = if _ then some l else none
    by_cases h : (1 ≤ l.length ∧ l.length ≤ 10) ∧ l.all (fun n => decide (0 ≤ n) && decide (n ≤ 1000000)) = true
    · rw [if_pos h, if_pos]
      unfold okStarts
      rw [decide_eq_true h.1]
      exact h.2
    · rw [if_neg h, if_neg]
      intro z
      unfold okStarts at z
      rw [Bool.and_eq_true, decide_eq_true_eq] at z
      exact h z
inductive R_parse_bikes : List PyData → PyData → Prop
  | mk (x : Str) (hx : Tx x) : R_parse_bikes [.str x] (tupO (numsW 12 12 x))
inductive R_parse_starts : List PyData → PyData → Prop
  | mk (x : Str) (hx : Tx x) : R_parse_starts [.str x] (tupO (numsW 10 1000000 x))
abbrev s_parse_bikes : Stmt := top 57
abbrev n_parse_bikes : List Str := ["word", "numbers"]
theorem sc_parse_bikes : FnScope n_parse_bikes ["word"] (defScope s_parse_bikes) := ⟨rfl, rfl, rfl, by decide +kernel, rfl, by decide +kernel, by decide +kernel⟩
theorem f_parse_bikes (G : Gs K mg) (c_parse_numbers : Cal P w K mg base 2 "parse_numbers" R_parse_numbers) (c_is_road : Cal P w K mg base 4 "is_road" R_is_road) (D : DefF K mg "parse_bikes" s_parse_bikes) : Cal P w K mg base 5 "parse_bikes" R_parse_bikes :=
  cal_of ["word"] D (fun _ _ _ _ _ _ us hl => match us, hl with | [_], _ => rfl) fun f fd Fn => by
    have sc := sc_parse_bikes
    refine fn_pure Fn sc (fun ds d h => by cases h <;> rfl) fun cdv A outer s H E hr => ?_
    have hu := hr.units
    refine ⟨_, (pss_cons (ps_set (i := 1) sc.nd rfl (Or.inl rfl) (C8.pe_c c_parse_numbers hr (by decide) (by rfl) (pa_cons (pv 0) (pa_cons (u_gstr G.COMMA) pa_nil))))
      (pss_one (ps_ret (pe_ifExp (PW.pt (pw_and (pt_cmp (pc_notN (pv 1)) (by rfl)) (pw_and1 (pt_val (C8.pe_c c_is_road hr (by decide) (by rfl) (pa_cons (pe_tup (pa_cons pe_int (pa_cons pe_int (pa_cons (pv 1) pa_nil)))) pa_nil)))))) (pv 1) pe_non)))), fun ds d h => ?_⟩
    cases h with
    | mk x hx =>
      refine r_seq (r_asg (e_c (.mk x 44 (by decide) hx) (a_cons (e_var rfl) (a_cons e_str a_nil))) rfl rfl) ?_
      rw [nums12]
      unfold nums8
      cases e : allSome canon8 (Txt.split x ⟨#[44]⟩) with
      | none =>
        exact r_ret (e_if (b := false) (t_and (b := false) (c := false) (t_test (e_notN (x := .none) (e_var rfl))) fun h => nomatch h) (fun h => nomatch h) fun _ => e_non) rfl rfl
      | some l =>
        refine r_ret (e_if (b := okRoad 2 1 l) (t_and (b := true) (c := okRoad 2 1 l) (t_test (e_notN (x := intsD l) (e_var rfl))) fun _ => t_test (e_c (.mk 2 1 l) (a_cons (e_tup (ds := [.int 2, .int 1, intsD l]) (a_cons e_int (a_cons e_int (a_cons (e_var rfl) a_nil))) (by simp)) a_nil))) (fun h => (e_var rfl).is ?_) fun h => e_non.is ?_) rfl rfl
        · show Sl.d (intsD l) = Sl.d (tupO (if _ then some l else none))
          rw [if_pos h]; rfl
        · show Sl.d PyData.none = Sl.d (tupO (if _ then some l else none))
          rw [if_neg (by rw [h]; decide)]; rfl
abbrev s_parse_starts : Stmt := top 58
abbrev n_parse_starts : List Str := ["word", "numbers"]
theorem sc_parse_starts : FnScope n_parse_starts ["word"] (defScope s_parse_starts) := ⟨rfl, rfl, rfl, by decide +kernel, rfl, by decide +kernel, by decide +kernel⟩
theorem f_parse_starts (G : Gs K mg) (c_parse_numbers : Cal P w K mg base 2 "parse_numbers" R_parse_numbers) (c_are_starts : Cal P w K mg base 2 "are_starts" R_are_starts) (D : DefF K mg "parse_starts" s_parse_starts) : Cal P w K mg base 3 "parse_starts" R_parse_starts :=
  cal_of ["word"] D (fun _ _ _ _ _ _ us hl => match us, hl with | [_], _ => rfl) fun f fd Fn => by
    have sc := sc_parse_starts
    refine fn_pure Fn sc (fun ds d h => by cases h <;> rfl) fun cdv A outer s H E hr => ?_
    have hu := hr.units
    refine ⟨_, (pss_cons (ps_set (i := 1) sc.nd rfl (Or.inl rfl) (C8.pe_c c_parse_numbers hr (by decide) (by rfl) (pa_cons (pv 0) (pa_cons (u_gstr G.COMMA) pa_nil))))
      (pss_one (ps_ret (pe_ifExp (PW.pt (pw_and (pt_cmp (pc_notN (pv 1)) (by rfl)) (pw_and1 (pt_val (C8.pe_c c_are_starts hr (by decide) (by rfl) (pa_cons (pv 1) pa_nil)))))) (pv 1) pe_non)))), fun ds d h => ?_⟩
    cases h with
    | mk x hx =>
      refine r_seq (r_asg (e_c (.mk x 44 (by decide) hx) (a_cons (e_var rfl) (a_cons e_str a_nil))) rfl rfl) ?_
      rw [nums10]
      unfold nums8
      cases e : allSome canon8 (Txt.split x ⟨#[44]⟩) with
      | none =>
        exact r_ret (e_if (b := false) (t_and (b := false) (c := false) (t_test (e_notN (x := .none) (e_var rfl))) fun h => nomatch h) (fun h => nomatch h) fun _ => e_non) rfl rfl
      | some l =>
        refine r_ret (e_if (b := okStarts l) (t_and (b := true) (c := okStarts l) (t_test (e_notN (x := intsD l) (e_var rfl))) fun _ => t_test (e_c (.mk l) (a_cons (e_var rfl) a_nil))) (fun h => (e_var rfl).is ?_) fun h => e_non.is ?_) rfl rfl
        · show Sl.d (intsD l) = Sl.d (tupO (if _ then some l else none))
          rw [if_pos h]; rfl
        · show Sl.d PyData.none = Sl.d (tupO (if _ then some l else none))
          rw [if_neg (by rw [h]; decide)]; rfl

/-- the i-th word's reading -/
def partD (i : Nat) (x : Str) : PyData := match i with
  | 0 => tupO (tickW x)
  | 1 => tupO (numsW 12 12 x)
  | 2 => if x = fromS then .str fromS else .none
  | 3 => tupO (numsW 10 1000000 x)
  | _ => .none
inductive R_parse_part : List PyData → PyData → Prop
  | mk (i : Nat) (x : Str) (hx : Tx x) : R_parse_part [.int (i : Int), .str x] (partD i x)
abbrev s_parse_part : Stmt := top 59
abbrev n_parse_part : List Str := ["index", "word"]
theorem sc_parse_part : FnScope n_parse_part ["index", "word"] (defScope s_parse_part) := ⟨rfl, rfl, rfl, by decide +kernel, rfl, by decide +kernel, by decide +kernel⟩
theorem f_parse_part (G : Gs K mg) (c_parse_ticks : Cal P w K mg base 5 "parse_ticks" R_parse_ticks) (c_parse_bikes : Cal P w K mg base 5 "parse_bikes" R_parse_bikes) (c_parse_starts : Cal P w K mg base 3 "parse_starts" R_parse_starts) (D : DefF K mg "parse_part" s_parse_part) : Cal P w K mg base 6 "parse_part" R_parse_part :=
  cal_of ["index", "word"] D (fun _ _ _ _ _ _ us hl => match us, hl with | [_, _], _ => rfl) fun f fd Fn => by
    have sc := sc_parse_part
    refine fn_pure Fn sc (fun ds d h => by cases h <;> rfl) fun cdv A outer s H E hr => ?_
    have hu := hr.units
    refine ⟨_, (pss_cons (ps_if (pt_cmpR (kx_eq G hu) (pv 0) pe_int (nomark _)) (pss_one (ps_ret (C8.pe_c c_parse_ticks hr (by decide) (by rfl) (pa_cons (pv 1) pa_nil)))) pss_nil)
      (pss_cons (ps_if (pt_cmpR (kx_eq G hu) (pv 0) pe_int (nomark _)) (pss_one (ps_ret (C8.pe_c c_parse_bikes hr (by decide) (by rfl) (pa_cons (pv 1) pa_nil)))) pss_nil)
      (pss_cons (ps_if (pt_cmpR (kx_eq G hu) (pv 0) pe_int (nomark _)) (pss_one (ps_ret (pe_ifExp (pt_cmpR (kx_eq G hu) (pv 1) (u_gstr G.MIDDLE) (nomark _)) (u_gstr G.MIDDLE) pe_non))) pss_nil)
      (pss_one (ps_ret (pe_ifExp (pt_cmpR op_lt (pv 0) (u_gint G.MANY_WORDS) (nomark _)) (C8.pe_c c_parse_starts hr (by decide) (by rfl) (pa_cons (pv 1) pa_nil)) pe_non)))))), fun ds d h => ?_⟩
    cases h with
    | mk i x hx =>
      refine r_guard (t_test (e_eqI (e_var rfl) e_int)) (fun h => r_ret (e_c (.mk x hx) (a_cons (e_var rfl) a_nil)) rfl ?_) fun h0 => ?_
      · have : i = 0 := by simpa using h
        subst this; rfl
      refine r_guard (t_test (e_eqI (e_var rfl) e_int)) (fun h => r_ret (e_c (.mk x hx) (a_cons (e_var rfl) a_nil)) rfl ?_) fun h1 => ?_
      · have : i = 1 := by simp at h; omega
        subst this; rfl
      refine r_guard (t_test (e_eqI (e_var rfl) e_int)) (fun hi => r_ret (e_if (t_test (e_eqS (e_var rfl) e_str)) (fun hb => e_str.is (t := .d (partD i x)) ?_) fun hb => e_non.is ?_) rfl rfl) fun h2 => ?_
      · have : i = 2 := by simp at hi; omega
        subst this
        have : x = fromS := of_decide_eq_true hb
        subst this
        rfl
      · have : i = 2 := by simp at hi; omega
        subst this
        show _ = Sl.d (if x = fromS then _ else _)
        rw [if_neg (show ¬ x = fromS from of_decide_eq_false hb)]
      refine r_ret (e_if (t_test (e_cmp (p := fun i j => decide (i < j)) (e_var rfl) e_int)) (fun h => (e_c (.mk x hx) (a_cons (e_var rfl) a_nil)).is (t := .d (partD i x)) ?_) fun h => e_non.is ?_) rfl rfl
      · have : i = 3 := by simp at h h0 h1 h2; omega
        subst this; rfl
      · have : 4 ≤ i := by simp at h; omega
        obtain ⟨k, rfl⟩ := Nat.exists_eq_add_of_le this
        rw [Nat.add_comm]; rfl
end
end K45
-- B9
set_option maxHeartbeats 4000000
namespace K45
open PySem PySem.Spec PyProof.Rows L2
open Evl (Ex ex_rd ex_l ex_t)
section
variable {P : Program} {w : World} {K : PySem.W.Frag} {mg : Str → Option Value} {base : Heap}
inductive R_law_number : List PyData → PyData → Prop
  | mk (x : Str) (lo hi : Int) (hx : Tx x) : R_law_number [.str x, .int lo, .int hi] (optD (canonTo lo hi x))
theorem canLay_map {α : Type} (f : α → PyData) (hf : ∀ a, (f a).canLay0 = true) : ∀ l : List α, PyData.canLayAll0 (l.map f) = true
  | [] => rfl
  | a :: l => by rw [List.map_cons, PyData.canLayAll0, hf a, canLay_map f hf l]; rfl
theorem canLay_all : ∀ {l : List PyData}, (∀ d ∈ l, d.canLay0 = true) → PyData.canLayAll0 l = true
  | [], _ => rfl
  | a :: l, h => by rw [PyData.canLayAll0, h a List.mem_cons_self, canLay_all fun d hd => h d (List.mem_cons_of_mem _ hd)]; rfl
theorem depth_all {n : Nat} : ∀ {l : List PyData}, (∀ d ∈ l, d.depth ≤ n) → PyData.depthAll l ≤ n
  | [], _ => Nat.zero_le _
  | a :: l, h => by
    have h1 := h a List.mem_cons_self
    have h2 := depth_all fun d hd => h d (List.mem_cons_of_mem _ hd)
    rw [PyData.depthAll]; omega
theorem shaped_lst {l : List PyData} (h : ∀ d ∈ l, d.canLay0 = true ∧ d.depth = 0) : SeqAt.shaped (.list l) = true := by
  unfold SeqAt.shaped
  rw [Bool.and_eq_true]
  refine ⟨by rw [PyData.canLay0]; exact canLay_all fun d hd => (h d hd).1, decide_eq_true ?_⟩
  have := depth_all (n := 0) fun d hd => Nat.le_of_eq (h d hd).2
  rw [PyData.depth]; omega
theorem eqv_nil (l : List PyData) : PyData.eqv (.list l) (.list []) = l.isEmpty := by
  cases l <;> simp [PyData.eqv, PyData.eqvAll]
abbrev s_law_number : Stmt := top 80
abbrev n_law_number : List Str := ["_law_word", "_law_low", "_law_high", "_law_one"]
theorem sc_law_number : FnScope n_law_number ["_law_word", "_law_low", "_law_high"] (defScope s_law_number) := ⟨rfl, rfl, rfl, by decide +kernel, rfl, by decide +kernel, by decide +kernel⟩
theorem f_law_number (G : Gs K mg)  (D : DefF K mg "_law_number" s_law_number) : Cal P w K mg base 1 "_law_number" R_law_number :=
  cal_of ["_law_word", "_law_low", "_law_high"] D (fun _ _ _ _ _ _ us hl => match us, hl with | [_, _, _], _ => rfl) fun f fd Fn => by
    have sc := sc_law_number
    refine fn_pure Fn sc (fun ds d h => by cases h <;> rfl) fun cdv A outer s H E hr => ?_
    have hu := hr.units
    refine ⟨_, (pss_cons (ps_if (PW.pt (pw_or (pt_cmpR (kx_eq G hu) (pv 0) pe_str (nomark _)) (pw_or (pt_cmpR (kx_ne G hu) (pe_lc (own := [("_law_one", 3)]) (g := gName 3) rfl sc.nd (pi_str (pv 0)) (blkOk_by (own := [("_law_one", 3)]) (N := n_law_number) (sc := defScope s_law_number) (by decide +kernel)) (fun _ _ _ _ _ => (pg_name (i := 3) sc.nd rfl (Or.inl rfl))) (fun _ _ _ _ _ => (pts_one (pt_cmpR (kx_nin G) (pv 3) pe_str (by rfl)))) (fun _ _ _ _ _ => (pv 3))) (pe_lst pa_nil) (nomark _)) (pw_or1 (PW.pt (pw_and (pt_cmpR (kx_eq G hu) (pe_ix (kx_ix G) (pv 0) pe_int (fun _ _ => rfl)) pe_str (nomark _)) (pw_and1 (pt_cmpR (kx_ne G hu) (pv 0) pe_str (nomark _))))))))) (pss_one (ps_ret pe_non)) pss_nil)
      (pss_one (ps_ret (pe_ifExp (pt_chain op_le op_le (pv 1) (u_int G (pa_cons (pv 0) pa_nil)) (pv 2)) (u_int G (pa_cons (pv 0) pa_nil)) pe_non)))), fun ds d h => ?_⟩
    cases h with
    | mk x lo hi hx =>
      have hl := len_tl x
      refine r_guard (b := (tl x).isEmpty || ((!(tl x).all isDig) || lead (tl x))) ((t_or (b := (tl x).isEmpty) ((t_test (e_eqS (e_var rfl) e_str)).is ?_) fun h0 => t_or (b := !(tl x).all isDig) ((t_test (e_ne (x := .list (((List.range (signs x).length).filter fun i => !isDig ((tl x).getD i 0)).map fun i => .str ⟨#[(tl x).getD i 0]⟩)) (y := .list []) (m_lc (js := [3]) (it_str (e_var rfl)) _ _ (by simp) (fun i d hd => ?_) ?_).d rfl (m_lst (ds := []) a_nil (by decide)).d rfl (shaped_lst fun d hd => ?_) (shaped_ints []))).is ?_) fun h1 => (t_and (t_test (e_eqS (e_ixs (c := (tl x).headD 0) (e_var rfl) e_int (Str_big hx.len) ?_) e_str)) fun _ => t_test (e_neS (e_var rfl) e_str)).is ?_)) (fun h => r_ret e_non rfl ?_) fun h => ?_
      · show decide (x = ⟨([] : List Nat).toArray⟩) = _
        rw [str_eq_tl]
        cases tl x <;> simp
      · unfold signs at hd
        obtain ⟨c, hc, rfl⟩ := map_inv hd
        have e : (tl x).getD i 0 = c := by rw [List.getD_eq_getElem?_getD, hc]; rfl
        refine ⟨[.str ⟨#[c]⟩], g_name, ?_, fun _ => (e_var rfl).is ?_⟩
        · rw [e]
          exact (t_test (e_notIns (e_var rfl) e_str)).is (by rw [fig_mem])
        · show _ = Sl.d (.str ⟨#[(tl x).getD i 0]⟩)
          rw [e]
      · have := hx.len
        simp [signs]; simp at hl; omega
      · obtain ⟨i, hi, rfl⟩ := List.mem_map.mp hd
        have hi := List.mem_range.mp (List.mem_filter.mp hi).1
        have hlt : i < (tl x).length := by simpa [signs] using hi
        refine ⟨?_, rfl⟩
        have e : (tl x).getD i 0 = (tl x)[i] := by rw [List.getD_eq_getElem?_getD, List.getElem?_eq_getElem hlt]; rfl
        have h256 := hx.asc _ (List.getElem_mem hlt)
        rw [PyData.canLay0, e]
        unfold PyData.strOk
        generalize (tl x)[i] = c at h256 ⊢
        simp
        omega
      · rw [eqv_nil]
        cases hd : (tl x).all isDig with
        | true =>
          have e : ((List.range (signs x).length).filter fun i => !isDig ((tl x).getD i 0)) = [] := by
            rw [List.filter_eq_nil_iff]
            intro i hi
            have hlt : i < (tl x).length := by simpa [signs] using List.mem_range.mp hi
            have e : (tl x).getD i 0 = (tl x)[i] := by rw [List.getD_eq_getElem?_getD, List.getElem?_eq_getElem hlt]; rfl
            rw [e, List.all_eq_true.mp hd _ (List.getElem_mem hlt)]; decide
          rw [e]; rfl
        | false =>
          obtain ⟨c, hc, ec⟩ := List.all_eq_false.mp hd
          obtain ⟨i, hi, rfl⟩ := List.mem_iff_getElem.mp hc
          have e : (tl x).getD i 0 = (tl x)[i] := by rw [List.getD_eq_getElem?_getD, List.getElem?_eq_getElem hi]; rfl
          have m : i ∈ (List.range (signs x).length).filter fun i => !isDig ((tl x).getD i 0) := List.mem_filter.mpr ⟨List.mem_range.mpr (by simpa [signs] using hi), by rw [e]; simpa using ec⟩
          have := List.ne_nil_of_mem m
          simpa using this
      · cases e : tl x with
        | nil => rw [e] at h0; cases h0
        | cons c l => exact atI_nat (j := 0) (by show (tl x)[0]? = _; rw [e]; rfl)
      · show (decide ((⟨#[(tl x).headD 0]⟩ : Str) = ⟨#[48]⟩) && !decide (x = ⟨[48].toArray⟩)) = _
        rw [one_eq, str_eq_tl]
        unfold lead
        cases e : tl x with
        | nil => rw [e] at h0; cases h0
        | cons c l => simp
      · show PyData.none = optD (canonTo lo hi x)
        unfold canonTo canon canonL
        rw [if_pos (by simpa [or_assoc] using h)]
        rfl
      · rw [Bool.or_eq_false_iff, Bool.or_eq_false_iff, Bool.not_eq_false'] at h
        obtain ⟨h1, h2, h3⟩ := h
        have cv : canon x = some ((NumText.digitsVal (tl x) : Nat) : Int) := by
          unfold canon canonL
          rw [if_neg (by rw [h1, h2, h3]; decide)]
        have iv : PySem.intText? x = some ((NumText.digitsVal (tl x) : Nat) : Int) := by
          have h640 := hx.run.self h2
          refine intText_digits (fun c hc => ?_) ?_ (by omega)
          · have := List.all_eq_true.mp h2 c hc
            unfold isDig at this
            simpa using this
          · intro z
            have z : tl x = [] := z
            rw [z] at h1; cases h1
        have l6 : x.length ≤ 640 := by have := hx.run.self h2; omega
        refine r_ret (e_if (t_test (e_chain (e_var rfl) (c_intS (a_cons (e_var rfl) a_nil) iv l6) (e_var rfl))) (fun h => (c_intS (a_cons (e_var rfl) a_nil) iv l6).is ?_) fun h => e_non.is (t := .d (optD (canonTo lo hi x))) ?_) rfl rfl
        · unfold canonTo
          rw [cv]
          show _ = Sl.d (optD (if _ then _ else _))
          rw [if_pos (by simpa using h)]; rfl
        · unfold canonTo
          rw [cv]
          show _ = Sl.d (optD (if _ then _ else _))
          rw [if_neg (by intro z; simp [z.1, z.2] at h)]; rfl

inductive R_law_numbers : List PyData → PyData → Prop
  | mk (x : Str) (most : Nat) (hi : Int) (hx : Tx x) : R_law_numbers [.str x, .int (most : Int), .int hi] (tupO (numsW most hi x))
abbrev s_law_numbers : Stmt := top 81
abbrev n_law_numbers : List Str := ["_law_word", "_law_most", "_law_high", "_law_found", "_law_one"]
theorem sc_law_numbers : FnScope n_law_numbers ["_law_word", "_law_most", "_law_high"] (defScope s_law_numbers) := ⟨rfl, rfl, rfl, by decide +kernel, rfl, by decide +kernel, by decide +kernel⟩
theorem f_law_numbers (G : Gs K mg) (c_law_number : Cal P w K mg base 1 "_law_number" R_law_number) (D : DefF K mg "_law_numbers" s_law_numbers) : Cal P w K mg base 2 "_law_numbers" R_law_numbers :=
  cal_of ["_law_word", "_law_most", "_law_high"] D (fun _ _ _ _ _ _ us hl => match us, hl with | [_, _, _], _ => rfl) fun f fd Fn => by
    have sc := sc_law_numbers
    refine fn_pure Fn sc (fun ds d h => by cases h <;> rfl) fun cdv A outer s H E hr => ?_
    have hu := hr.units
    refine ⟨_, (pss_cons (ps_set (i := 3) sc.nd rfl (Or.inl rfl) (u_tuple G (pa_cons (pe_lc (own := [("_law_one", 4)]) (g := gName 4) rfl sc.nd (pi_list (pe_split (pv 0) pe_str)) (blkOk_by (own := [("_law_one", 4)]) (N := n_law_numbers) (sc := defScope s_law_numbers) (by decide +kernel)) (fun _ _ _ _ _ => (pg_name (i := 4) sc.nd rfl (Or.inl rfl))) (fun _ _ _ _ _ => pts_nil) (fun _ _ _ _ _ => (C8.pe_c c_law_number hr (by decide) (by rfl) (pa_cons (pv 4) (pa_cons pe_int (pa_cons (pv 2) pa_nil)))))) pa_nil)))
      (pss_one (ps_ret (pe_ifExp (PW.pt (pw_or (pt_cmpR (kx_in G) pe_non (pv 3) (by rfl)) (pw_or1 (pt_cmpR op_gt (u_len G (pa_cons (pv 3) pa_nil)) (pv 1) (nomark _))))) pe_non (pv 3))))), fun ds d h => ?_⟩
    cases h with
    | mk x most hi hx =>
      refine r_seq (r_asg (c_tup (xs := ((Txt.split x comma).map (canonTo 0 hi)).map optD) (a_cons (m_lcm (it_list (m_split (y := comma) (e_var rfl) e_str rfl hx.len).d) (js := [4]) (by simp) (by simp) (fun i d r hd hr => ?_) (by rw [List.length_map]; have := hx.parts comma; omega)).d a_nil) (.inl rfl)) rfl rfl) ?_
      · obtain ⟨p, hp, rfl⟩ := map_inv hd
        rw [List.map_map] at hr
        have e := map_get hp hr
        subst e
        exact ⟨[.str p], g_name, e_c (.mk p 0 hi (hx.part (by decide) (List.mem_of_getElem? hp))) (a_cons (e_var rfl) (a_cons e_int (a_cons (e_var rfl) a_nil)))⟩
      unfold numsW
      cases e : allSome (canonTo 0 hi) (Txt.split x comma) with
      | none =>
        refine r_ret (e_if (b := true) (t_or (b := true) (c := true) ((t_test (e_in e_non (e_var rfl) (.inr rfl) rfl (opt_flat _))).is (by rw [none_any, allSome_any, e]; rfl)) fun h => nomatch h) (fun _ => e_non) fun h => nomatch h) rfl rfl
      | some l =>
        rw [allSome_some.mp e, map_opt]
        refine r_ret (e_if (b := decide (((l.map PyData.int).length : Int) > (most : Int))) (t_or (b := false) ((t_test (e_in (xs := l.map PyData.int) e_non (e_var rfl) (.inr rfl) rfl (flat_ints _))).is ?_) fun h => t_test (e_cmp (p := fun i j => decide (i > j)) (c_len (xs := l.map PyData.int) (a_cons (e_var rfl) a_nil) (.inr rfl)) (e_var rfl))) (fun h => e_non.is ?_) fun h => (e_var rfl).is ?_) rfl rfl
        · rw [← map_opt, none_any, ← allSome_some.mp e, allSome_any, e]; rfl
        · show _ = Sl.d (tupO (if _ then _ else _))
          rw [if_neg (by simp at h; omega)]; rfl
        · show _ = Sl.d (tupO (if _ then _ else _))
          rw [if_pos (by simp at h; omega)]; rfl

inductive R_law_ticks : List PyData → PyData → Prop
  | mk (x : Str) (hx : Tx x) : R_law_ticks [.str x] (tupO (tickW x))
theorem isNo_opt (o : Option Int) : isNo (optD o) = o.isNone := by cases o <;> rfl
theorem tick_two {p q : Str} : (match canon p, canon q with
    | some w, some r => if okTicks w r then some [w, r] else none
    | _, _ => none) = (match canonTo 1 1000 p, canonTo 1 1000 q with
    | some w, some r => if r ≥ w then none else some [w, r]
    | _, _ => none) := by
  unfold canonTo
  cases canon p with
  | none => rfl
  | some w =>
    cases canon q with
    | none =>
      show none = (match (if 1 ≤ w ∧ w ≤ 1000 then some w else none), none with
        | some w, some r => if r ≥ w then none else some [w, r]
        | _, _ => none)
      split <;> simp_all
    | some r =>
      show (if okTicks w r = true then some [w, r] else none) = (match (if 1 ≤ w ∧ w ≤ 1000 then some w else none), (if 1 ≤ r ∧ r ≤ 1000 then some r else none) with
        | some w, some r => if r ≥ w then none else some [w, r]
        | _, _ => none)
      by_cases h : okTicks w r = true
      · obtain ⟨h1, h2, h3, h4, h5⟩ := okTicks_le h
        rw [if_pos h, if_pos ⟨h4, h1⟩, if_pos ⟨h3, h2⟩]
        show _ = if r ≥ w then none else some [w, r]
        rw [if_neg (by omega)]
      · rw [if_neg h]
        by_cases a : 1 ≤ w ∧ w ≤ 1000
        · rw [if_pos a]
          by_cases b : 1 ≤ r ∧ r ≤ 1000
          · rw [if_pos b]
            show _ = if r ≥ w then none else some [w, r]
            rw [if_pos]
            apply Int.not_lt.mp
            intro z
            apply h
            unfold okTicks
            simp
            omega
          · rw [if_neg b]
        · rw [if_neg a]
abbrev s_law_ticks : Stmt := top 82
abbrev n_law_ticks : List Str := ["_law_word", "_law_parts", "_law_walk", "_law_ride"]
theorem sc_law_ticks : FnScope n_law_ticks ["_law_word"] (defScope s_law_ticks) := ⟨rfl, rfl, rfl, by decide +kernel, rfl, by decide +kernel, by decide +kernel⟩
theorem f_law_ticks (G : Gs K mg) (c_law_number : Cal P w K mg base 1 "_law_number" R_law_number) (D : DefF K mg "_law_ticks" s_law_ticks) : Cal P w K mg base 2 "_law_ticks" R_law_ticks :=
  cal_of ["_law_word"] D (fun _ _ _ _ _ _ us hl => match us, hl with | [_], _ => rfl) fun f fd Fn => by
    have sc := sc_law_ticks
    refine fn_pure Fn sc (fun ds d h => by cases h <;> rfl) fun cdv A outer s H E hr => ?_
    have hu := hr.units
    refine ⟨_, (pss_cons (ps_set (i := 1) sc.nd rfl (Or.inl rfl) (pe_split (pv 0) pe_str))
      (pss_cons (ps_if (pt_cmpR (kx_ne G hu) (u_len G (pa_cons (pv 1) pa_nil)) pe_int (nomark _)) (pss_one (ps_ret pe_non)) pss_nil)
      (pss_cons (ps_par (i := 2) (j := 3) rfl sc.nd rfl rfl (by decide) rfl rfl (pa_cons (C8.pe_c c_law_number hr (by decide) (by rfl) (pa_cons (pe_ix (kx_ix G) (pv 1) pe_int (fun _ _ => rfl)) (pa_cons pe_int (pa_cons pe_int pa_nil)))) (pa_cons (C8.pe_c c_law_number hr (by decide) (by rfl) (pa_cons (pe_ix (kx_ix G) (pv 1) pe_int (fun _ _ => rfl)) (pa_cons pe_int (pa_cons pe_int pa_nil)))) pa_nil)) (by rfl))
      (pss_one (ps_ret (pe_ifExp (PW.pt (pw_or (pt_cmp (pc_isN (pv 2)) (by rfl)) (pw_or (pt_cmp (pc_isN (pv 3)) (by rfl)) (pw_or1 (pt_cmpR op_ge (pv 3) (pv 2) (nomark _)))))) pe_non (pe_tup (pa_cons (pv 2) (pa_cons (pv 3) pa_nil))))))))), fun ds d h => ?_⟩
    cases h with
    | mk x hx =>
      have hp : ∀ p ∈ Txt.split x slash, Tx p := fun p hp => hx.part (by decide) hp
      refine r_seq (r_asg (m_split (y := slash) (e_var rfl) e_str rfl hx.len).d rfl rfl) ?_
      refine r_guard (t_test (e_neI (c_len (xs := (Txt.split x slash).map PyData.str) (a_cons (e_var rfl) a_nil) (.inl rfl)) e_int)) (fun h => r_ret e_non rfl ?_) fun h => ?_
      · have h : (Txt.split x slash).length ≠ 2 := by rw [List.length_map] at h; simp at h; omega
        show PyData.none = tupO (tickW x)
        unfold tickW
        generalize Txt.split x slash = ps at h
        split
        · exact absurd rfl h
        · rfl
      · have h : (Txt.split x slash).length = 2 := by rw [List.length_map] at h; simp at h; omega
        unfold tickW
        generalize Txt.split x slash = ps at h hp ⊢
        match ps, h with
        | [p, q], _ =>
          refine r_seq (r_par (a_cons (e_c (.mk p 1 1000 (hp p (by simp))) (a_cons (e_ix (e_var rfl) (.inl rfl) e_int rfl) (a_cons e_int (a_cons e_int a_nil)))) (a_cons (e_c (.mk q 1 1000 (hp q (by simp))) (a_cons (e_ix (e_var rfl) (.inl rfl) e_int rfl) (a_cons e_int (a_cons e_int a_nil)))) a_nil)) rfl rfl rfl) ?_
          show RunE _ _ _ { nx := fun _ => tupO (match canon p, canon q with
            | some w, some r => if okTicks w r then some [w, r] else none
            | _, _ => none) = .none, rt := fun d' => d' = tupO (match canon p, canon q with
            | some w, some r => if okTicks w r then some [w, r] else none
            | _, _ => none) }
          rw [tick_two]
          cases e1 : canonTo 1 1000 p with
          | none => exact r_ret (e_if (b := true) (t_or (b := true) (c := true) (t_test (e_isN (x := .none) (e_var rfl))) fun h => nomatch h) (fun _ => e_non) fun h => nomatch h) rfl rfl
          | some w =>
            cases e2 : canonTo 1 1000 q with
            | none => exact r_ret (e_if (b := true) (t_or (b := false) (t_test (e_isN (x := .int w) (e_var rfl))) fun h => t_or (b := true) (c := true) (t_test (e_isN (x := .none) (e_var rfl))) fun h => nomatch h) (fun _ => e_non) fun h => nomatch h) rfl rfl
            | some r =>
              refine r_ret (e_if (b := decide (r ≥ w)) (t_or (b := false) (t_test (e_isN (x := .int w) (e_var rfl))) fun _ => t_or (b := false) (t_test (e_isN (x := .int r) (e_var rfl))) fun _ => t_test (e_cmp (p := fun i j => decide (i ≥ j)) (e_var rfl) (e_var rfl))) (fun h => e_non.is ?_) fun h => (e_tup (ds := [.int w, .int r]) (a_cons (e_var rfl) (a_cons (e_var rfl) a_nil)) (by simp)).is ?_) rfl rfl
              · show _ = Sl.d (tupO (if _ then _ else _))
                rw [if_pos (of_decide_eq_true h)]; rfl
              · show _ = Sl.d (tupO (if _ then _ else _))
                rw [if_neg (of_decide_eq_false h)]; rfl

/-- the first word that is not as it should be -/
def badAt (ws : List Str) : Option Nat := (List.range ws.length).find? fun i => isNo (partD i (ws.getD i ⟨#[]⟩))
def dueN (ws : List Str) : Option Nat := match badAt ws with
  | some i => some i
  | none => if ws.length < 4 then some ws.length else none
/-- the trip of four good words -/
def okD (ws : List Str) : PyData := match ws with
  | [a, b, _, d] => .tuple [.tuple ((match tickW a with | some t => t | none => []).map PyData.int ++ [tupO (numsW 12 12 b)]), tupO (numsW 10 1000000 d)]
  | _ => .none
def okL (ws : List Str) : PyData := match okD ws with
  | .tuple l => .list l
  | d => d
def dueD (x : Str) : PyData := match dueN (Txt.split x blank1) with
  | some i => .list [.str "text", .int (i : Nat)]
  | none => okL (Txt.split x blank1)
theorem badAt_some {ws : List Str} {i : Nat} (hi : i < ws.length) (h : isNo (partD i (ws.getD i ⟨#[]⟩)) = true) (g : ∀ j < i, isNo (partD j (ws.getD j ⟨#[]⟩)) = false) : badAt ws = some i := by
  unfold badAt
  rw [List.find?_range_eq_some]
  exact ⟨h, List.mem_range.mpr hi, fun j hj => by rw [g j hj]; rfl⟩
theorem badAt_none {ws : List Str} (g : ∀ j < ws.length, isNo (partD j (ws.getD j ⟨#[]⟩)) = false) : badAt ws = none := by
  unfold badAt
  rw [List.find?_eq_none]
  intro j hj
  rw [g j (List.mem_range.mp hj)]
  decide
theorem part4 (x : Str) {i : Nat} (h : 4 ≤ i) : partD i x = .none := by
  obtain ⟨k, rfl⟩ := Nat.exists_eq_add_of_le h
  rw [Nat.add_comm]; rfl
theorem getD_get {ws : List Str} {i : Nat} {x : Str} (h : ws[i]? = some x) : ws.getD i ⟨#[]⟩ = x := by rw [List.getD_eq_getElem?_getD, h]; rfl
inductive R_law_due : List PyData → PyData → Prop
  | no (d : PyData) (h : tyN d ≠ "str") (hk : kitB (tyN d) "str" = some false) : R_law_due [d] (.list [.str "text", .none])
  | mk (x : Str) (hx : Tx x) : R_law_due [.str x] (dueD x)
theorem isNo_none {d : PyData} (h : isNo d = true) : d = .none := by cases d <;> first | rfl | cases h
theorem tick_some {x : Str} (h : isNo (tupO (tickW x)) = false) : ∃ w r, tickW x = some [w, r] := by
  unfold tickW at h ⊢
  split at h
  · split at h
    · split at h
      · rename_i w r _ _ _
        exact ⟨w, r, by simp_all⟩
      · cases h
    · cases h
  · cases h
theorem nums_some {o : Option (List Int)} (h : isNo (tupO o) = false) : ∃ l, o = some l := by
  cases o with
  | none => cases h
  | some l => exact ⟨l, rfl⟩
theorem four {ws : List Str} (h : ws.length = 4) : ∃ a b c d, ws = [a, b, c, d] := by
  match ws, h with
  | [a, b, c, d], _ => exact ⟨a, b, c, d, rfl⟩
theorem foundAt {ws : List Str} {n : Nat} {j : Nat} (h : j < n) : atI ((List.range n).map fun i => partD i (ws.getD i ⟨#[]⟩)) (j : Int) = some (partD j (ws.getD j ⟨#[]⟩)) :=
  atI_nat (by rw [List.getElem?_map, List.getElem?_range h]; rfl)
abbrev s_law_due : Stmt := top 83
abbrev n_law_due : List Str := ["_law_value", "_law_words", "_law_found", "_law_index", "_law_word"]
theorem sc_law_due : FnScope n_law_due ["_law_value"] (defScope s_law_due) := ⟨rfl, rfl, rfl, by decide +kernel, rfl, by decide +kernel, by decide +kernel⟩
theorem f_law_due (G : Gs K mg) (c_law_ticks : Cal P w K mg base 2 "_law_ticks" R_law_ticks) (c_law_numbers : Cal P w K mg base 2 "_law_numbers" R_law_numbers) (D : DefF K mg "_law_due" s_law_due) : Cal P w K mg base 3 "_law_due" R_law_due :=
  cal_of ["_law_value"] D (fun _ _ _ _ _ _ us hl => match us, hl with | [_], _ => rfl) fun f fd Fn => by
    have sc := sc_law_due
    refine fn_pure Fn sc (fun ds d h => by cases h <;> rfl) fun cdv A outer s H E hr => ?_
    have hu := hr.units
    refine ⟨_, (pss_cons (ps_if (pt_not (pt_val (u_isi G (pa_cons (pv 0) (pa_cons (u_tstr G) pa_nil))))) (pss_one (ps_ret (pe_lst (pa_cons pe_str (pa_cons pe_non pa_nil))))) pss_nil)
      (pss_cons (ps_par (i := 1) (j := 2) rfl sc.nd rfl rfl (by decide) rfl rfl (pa_cons (pe_split (pv 0) pe_str) (pa_cons (pe_lst pa_nil) pa_nil)) (by rfl))
      (pss_cons (ps_for PassesOwn.never rfl (u_range1 G (pa_cons pe_int pa_nil)) (pg_name (i := 3) sc.nd rfl (Or.inl rfl)) (pss_cons (ps_if (pt_cmpR (kx_eq G hu) (pv 3) (u_len G (pa_cons (pv 1) pa_nil)) (nomark _)) (pss_one (ps_ret (pe_lst (pa_cons pe_str (pa_cons (pv 3) pa_nil))))) pss_nil)
      (pss_cons (ps_set (i := 4) sc.nd rfl (Or.inl rfl) (pe_ix (kx_ix G) (pv 1) (pv 3) (fun _ _ => rfl)))
      (pss_cons (ps_if (pt_cmpR (kx_eq G hu) (pv 3) pe_int (nomark _)) (pss_one (ps_expr (pe_bm PySem.F.plainAttrs_list PySem.F.slot_list_append PySem.F.type_list_append mt_append (pv 2) (pa_cons (C8.pe_c c_law_ticks hr (by decide) (by rfl) (pa_cons (pv 4) pa_nil)) pa_nil)))) (pss_one (ps_if (pt_cmpR (kx_eq G hu) (pv 3) pe_int (nomark _)) (pss_one (ps_expr (pe_bm PySem.F.plainAttrs_list PySem.F.slot_list_append PySem.F.type_list_append mt_append (pv 2) (pa_cons (pe_ifExp (pt_cmpR (kx_eq G hu) (pv 4) pe_str (nomark _)) pe_str pe_non) pa_nil)))) (pss_one (ps_expr (pe_bm PySem.F.plainAttrs_list PySem.F.slot_list_append PySem.F.type_list_append mt_append (pv 2) (pa_cons (pe_ifExp (pt_cmpR (kx_eq G hu) (pv 3) pe_int (nomark _)) (C8.pe_c c_law_numbers hr (by decide) (by rfl) (pa_cons (pv 4) (pa_cons pe_int (pa_cons pe_int pa_nil)))) (C8.pe_c c_law_numbers hr (by decide) (by rfl) (pa_cons (pv 4) (pa_cons pe_int (pa_cons (pe_op op_pow pe_int pe_int) pa_nil))))) pa_nil)))))))
      (pss_one (ps_if (pt_cmp (pc_isN (pe_ix (kx_ix G) (pv 2) (pe_un un_neg pe_int) (fun _ _ => rfl))) (by rfl)) (pss_one (ps_ret (pe_lst (pa_cons pe_str (pa_cons (pv 3) pa_nil))))) pss_nil))))))
      (pss_one (ps_ret (pe_ifExp (pt_cmpR op_gt (u_len G (pa_cons (pv 1) pa_nil)) pe_int (nomark _)) (pe_lst (pa_cons pe_str (pa_cons pe_int pa_nil))) (pe_lst (pa_cons (pe_op (kx_add G) (pe_ix (kx_ix G) (pv 2) pe_int (fun _ _ => rfl)) (pe_tup (pa_cons (pe_ix (kx_ix G) (pv 2) pe_int (fun _ _ => rfl)) pa_nil))) (pa_cons (pe_ix (kx_ix G) (pv 2) pe_int (fun _ _ => rfl)) pa_nil))))))))), fun ds d h => ?_⟩
    cases h with
    | no d hd hk =>
      exact r_guard (b := true) ((t_not (t_test (c_isi (a_cons (e_var rfl) (a_cons e_val a_nil)) rfl (b := false) hk))).is (c := true) rfl) (fun _ => r_ret (m_lst (ds := [.str "text", .none]) (a_cons e_str (a_cons e_non a_nil)) (by simp)).d rfl rfl) fun h => nomatch h
    | mk x hx =>
      refine r_guard (b := false) ((t_not (t_test (c_isi (a_cons (e_var rfl) (a_cons e_val a_nil)) rfl (b := true) rfl))).is (c := false) rfl) (fun h => nomatch h) fun _ => ?_
      refine r_seq (r_parM (m_split (y := blank1) (e_var rfl) e_str rfl hx.len).d (m_lst (ds := []) a_nil (by decide)) rfl rfl) ?_
      have hw : ∀ p ∈ Txt.split x blank1, Tx p := fun p hp => hx.part (by decide) hp
      unfold dueD
      generalize Txt.split x blank1 = ws at hw ⊢
      refine r_seqI (I := fun L' => ∃ s3 s4, L' = [.d (.str x), .d (.list (ws.map PyData.str)), .m ((List.range 4).map fun i => partD i (ws.getD i ⟨#[]⟩)), s3, s4] ∧ 4 ≤ ws.length ∧ ∀ j < 4, isNo (partD j (ws.getD j ⟨#[]⟩)) = false) (r_for (js := [3]) (it_range1 (n := 4) (a_cons e_int a_nil) rfl (by decide)) (fun i L' => ∃ s3 s4, L' = [.d (.str x), .d (.list (ws.map PyData.str)), .m ((List.range i).map fun i => partD i (ws.getD i ⟨#[]⟩)), s3, s4] ∧ i ≤ ws.length ∧ ∀ j < i, isNo (partD j (ws.getD j ⟨#[]⟩)) = false) ⟨_, _, rfl, Nat.zero_le _, fun j hj => absurd hj (Nat.not_lt_zero _)⟩ (fun i d L' hd hI => ?_) (fun L' hI => ?_)) (fun M hM => ?_)
      · obtain ⟨k, hk, rfl⟩ := map_inv hd
        have i4 : i < 4 := by simpa using (List.getElem?_eq_some_iff.mp hd).1
        rw [List.getElem?_range i4] at hk
        cases hk
        obtain ⟨s3, s4, rfl, hle, hg⟩ := hI
        refine ⟨[.int (i : Int)], g_name, ?_⟩
        refine r_guard (t_test (e_eqI (e_var rfl) (c_len (xs := ws.map PyData.str) (a_cons (e_var rfl) a_nil) (.inl rfl)))) (fun h => r_ret (m_lst (ds := [.str "text", .int (i : Int)]) (a_cons e_str (a_cons (e_var rfl) a_nil)) (by simp)).d rfl ?_) fun h => ?_
        · have hl : ws.length = i := by simp at h; omega
          have e : dueN ws = some i := by
            unfold dueN
            rw [badAt_none (by rw [hl]; exact hg)]
            show (if ws.length < 4 then some ws.length else none) = _
            rw [if_pos (by omega), hl]
          rw [e]
        have hlt : i < ws.length := by simp at h; omega
        obtain ⟨wd, hwd⟩ : ∃ wd, ws[i]? = some wd := ⟨ws[i], List.getElem?_eq_getElem hlt⟩
        have gd := getD_get hwd
        have tx := hw wd (List.mem_of_getElem? hwd)
        refine r_seq (r_asg (e_ix (i := (i : Int)) (d := .str wd) (e_var rfl) (.inl rfl) (e_var rfl) (atI_nat (by rw [List.getElem?_map, hwd]; rfl))) rfl rfl) ?_
        refine r_seq (M := [.d (.str x), .d (.list (ws.map PyData.str)), .m ((List.range (i + 1)).map fun i => partD i (ws.getD i ⟨#[]⟩)), .d (.int (i : Int)), .d (.str wd)]) ?_ ?_
        · have ee : [Sl.d (.str x), .d (.list (ws.map PyData.str)), .m ((List.range i).map fun i => partD i (ws.getD i ⟨#[]⟩)), .d (.int (i : Int)), .d (.str wd)].set 2 (.m (((List.range i).map fun i => partD i (ws.getD i ⟨#[]⟩)) ++ [partD i wd])) = [.d (.str x), .d (.list (ws.map PyData.str)), .m ((List.range (i + 1)).map fun i => partD i (ws.getD i ⟨#[]⟩)), .d (.int (i : Int)), .d (.str wd)] := by
            rw [List.range_succ, List.map_append, ← gd]; rfl
          refine r_if (t_test (e_eqI (e_var rfl) e_int)) (fun h => r_app (d := partD i wd) rfl ?_ (by simp; omega) ee) fun h0 => ?_
          · have : i = 0 := by simp at h; omega
            subst this
            exact e_c (.mk wd tx) (a_cons (e_var rfl) a_nil)
          refine r_if (t_test (e_eqI (e_var rfl) e_int)) (fun h => r_app (d := partD i wd) rfl ?_ (by simp; omega) ee) fun h2 => r_app (d := partD i wd) rfl ?_ (by simp; omega) ee
          · have : i = 2 := by simp at h; omega
            subst this
            refine e_if (t_test (e_eqS (j := fromS) (e_var rfl) e_str)) (fun hb => e_str.is ?_) fun hb => e_non.is ?_
            · show _ = Sl.d (if wd = fromS then _ else _)
              rw [if_pos (of_decide_eq_true hb)]; rfl
            · show _ = Sl.d (if wd = fromS then _ else _)
              rw [if_neg (of_decide_eq_false hb)]
          · refine e_if (t_test (e_eqI (e_var rfl) e_int)) (fun hb => (e_c (.mk wd 12 12 tx) (a_cons (e_var rfl) (a_cons e_int (a_cons e_int a_nil)))).is ?_) fun hb => (e_c (.mk wd 10 1000000 tx) (a_cons (e_var rfl) (a_cons e_int (a_cons (e_pow (i := 10) (j := 6) e_int e_int (by unfold CPow; decide)) a_nil)))).is ?_
            · have : i = 1 := by simp at hb; omega
              subst this; rfl
            · have : i = 3 := by simp at hb h0 h2; omega
              subst this; rfl
        · have hi : atI ((List.range (i + 1)).map fun i => partD i (ws.getD i ⟨#[]⟩)) (-1) = some (partD i (ws.getD i ⟨#[]⟩)) := by
            rw [List.range_succ, List.map_append]; exact atI_last _ _
          refine r_if (t_test (e_isN (e_ix (e_var rfl) (.inl rfl) (e_neg e_int) hi))) (fun h => r_ret (m_lst (ds := [.str "text", .int (i : Int)]) (a_cons e_str (a_cons (e_var rfl) a_nil)) (by simp)).d rfl ?_) fun h => r_next ⟨_, _, rfl, hlt, fun j hj => ?_⟩
          · have e : dueN ws = some i := by
              unfold dueN
              rw [badAt_some hlt h hg]
            rw [e]
          · by_cases q : j < i
            · exact hg j q
            · have : j = i := by omega
              subst this; exact h
      · obtain ⟨s3, s4, rfl, hle, hg⟩ := hI
        rw [List.length_map, List.length_range] at hle hg ⊢
        exact ⟨s3, s4, rfl, hle, hg⟩
      · obtain ⟨s3, s4, rfl, hle, hg⟩ := hM
        refine r_ret (e_if (t_test (e_cmp (p := fun i j => decide (i > j)) (c_len (xs := ws.map PyData.str) (a_cons (e_var rfl) a_nil) (.inl rfl)) e_int)) (fun h => (m_lst (ds := [.str "text", .int 4]) (a_cons e_str (a_cons e_int a_nil)) (by simp)).d.is ?_) fun h => ?_) rfl rfl
        · have h4 : 4 < ws.length := by simp at h; omega
          have e : dueN ws = some 4 := by
            unfold dueN
            rw [badAt_some h4 (by rw [part4 _ (Nat.le_refl 4)]; rfl) hg]
          rw [e]; rfl
        · have h4 : ws.length = 4 := by simp at h; omega
          have e : dueN ws = none := by
            unfold dueN
            rw [badAt_none (by rw [h4]; exact hg)]
            show (if ws.length < 4 then some ws.length else none) = _
            rw [if_neg (by omega)]
          rw [e]
          obtain ⟨a, b, c, d, rfl⟩ := four h4
          obtain ⟨tw, tr, et⟩ := tick_some (hg 0 (by decide))
          have f0 := foundAt (ws := [a, b, c, d]) (n := 4) (j := 0) (by decide)
          have f1 := foundAt (ws := [a, b, c, d]) (n := 4) (j := 1) (by decide)
          have f3 := foundAt (ws := [a, b, c, d]) (n := 4) (j := 3) (by decide)
          have p0 : partD 0 ([a, b, c, d].getD 0 ⟨#[]⟩) = .tuple [.int tw, .int tr] := by
            show tupO (tickW a) = _
            rw [show tickW a = some [tw, tr] from et]; rfl
          rw [p0] at f0
          refine (m_lst (ds := [.tuple [.int tw, .int tr, partD 1 b], partD 3 d]) (a_cons (e_addt (xs := [.int tw, .int tr]) (ys := [partD 1 b]) (e_ix (e_var rfl) (.inl rfl) e_int f0) (e_tup (ds := [partD 1 b]) (a_cons (e_ix (e_var rfl) (.inl rfl) e_int f1) a_nil) (by simp)) (by show (3 : Nat) ≤ sizeLine; decide)) (a_cons (e_ix (e_var rfl) (.inl rfl) e_int f3) a_nil)) (by simp)).d.is ?_
          show _ = Sl.d (.list [.tuple ((match tickW a with | some t => t | none => []).map PyData.int ++ [tupO (numsW 12 12 b)]), tupO (numsW 10 1000000 d)])
          rw [show tickW a = some [tw, tr] from et]
          rfl
end
end K45
-- BA
set_option maxHeartbeats 4000000
namespace K45
open PySem PySem.Spec PyProof.Rows L2
open Evl (Ex ex_rd ex_l ex_t)
section
variable {P : Program} {w : World} {K : PySem.W.Frag} {mg : Str → Option Value} {base : Heap}
def ticksD (w r : Int) (bs starts : List Int) : List PyData := (List.range (bs.length + 1)).map fun i => intsD (ticksAt w r bs starts i)
inductive R_law_ruled : List PyData → PyData → Prop
  | mk (w r : Int) (bs starts : List Int) (hb : bs.length ≤ 1000) (hs : starts.length ≤ 1000) (h0 : ∀ b ∈ bs, 0 ≤ b) : R_law_ruled [roadD w r bs, intsD starts] (.list [.tuple (planD w r bs starts), .tuple (ticksD w r bs starts)])
theorem cnt_snoc {bs : List Int} {i : Nat} {b : Int} (h : bs[i]? = some b) : (bs.take i).sum + b = cnt bs i := by
  unfold cnt
  rw [List.take_succ, h, List.sum_append]
  simp
theorem sum_nat {bs : List Int} (h : ∀ b ∈ bs, 0 ≤ b) (i : Nat) : 0 ≤ (bs.take i).sum := sum_pos fun b hb => h b (List.mem_of_mem_take hb)
abbrev s_law_ruled : Stmt := top 76
abbrev n_law_ruled : List Str := ["_law_road_here", "_law_starts_here", "_law_walk", "_law_ride", "_law_bikes", "_law_ticks_here", "_law_plan", "_law_many", "_law_number_here", "_law_now", "_law_order", "_law_riders", "_law_person", "_law_tick"]
theorem sc_law_ruled : FnScope n_law_ruled ["_law_road_here", "_law_starts_here"] (defScope s_law_ruled) := ⟨rfl, rfl, rfl, by decide +kernel, rfl, by decide +kernel, by decide +kernel⟩
theorem f_law_ruled (G : Gs K mg)  (D : DefF K mg "_law_ruled" s_law_ruled) : Cal P w K mg base 1 "_law_ruled" R_law_ruled :=
  cal_of ["_law_road_here", "_law_starts_here"] D (fun _ _ _ _ _ _ us hl => match us, hl with | [_, _], _ => rfl) fun f fd Fn => by
    have sc := sc_law_ruled
    refine fn_pure Fn sc (fun ds d h => by cases h <;> rfl) fun cdv A outer s H E hr => ?_
    have hu := hr.units
    refine ⟨_, (pss_cons (ps_asg (pv 0) (pg_tup (by rfl) (pgs_cons (pg_name (i := 2) sc.nd rfl (Or.inr rfl)) (pgs_cons (pg_name (i := 3) sc.nd rfl (Or.inr rfl)) (pgs_cons (pg_name (i := 4) sc.nd rfl (Or.inl rfl)) pgs_nil)))))
      (pss_cons (ps_par3 (i := 5) (j := 6) (l := 7) rfl sc.nd rfl rfl rfl (by decide) (by decide) (by decide) rfl rfl rfl (pa_cons (pe_lst (pa_cons (u_tuple G (pa_cons (pv 1) pa_nil)) pa_nil)) (pa_cons (pe_lst pa_nil) (pa_cons pe_int pa_nil))) (by rfl))
      (pss_cons (ps_for PassesOwn.never rfl (pi_tup (pv 4)) (pg_name (i := 8) sc.nd rfl (Or.inl rfl)) (pss_cons (ps_par (i := 7) (j := 9) rfl sc.nd rfl rfl (by decide) rfl rfl (pa_cons (pe_op (kx_add G) (pv 7) (pv 8)) (pa_cons (pe_ix (kx_ix G) (pv 5) (pe_un un_neg pe_int) (fun _ _ => rfl)) pa_nil)) (by rfl))
      (pss_cons (ps_set (i := 10) sc.nd rfl (Or.inl rfl) (u_sorted G (pa_cons (pe_lc (own := [("_law_person", 12), ("_law_tick", 13)]) (g := gTup _ 2 (gCons (gName 12) (gCons (gName 13) gNil))) rfl sc.nd (u_enum G (pa_cons (pv 9) pa_nil)) (blkOk_by (own := [("_law_person", 12), ("_law_tick", 13)]) (N := n_law_ruled) (sc := defScope s_law_ruled) (by decide +kernel)) (fun _ _ _ _ _ => (pg_tup (by rfl) (pgs_cons (pg_name (i := 12) sc.nd rfl (Or.inl rfl)) (pgs_cons (pg_name (i := 13) sc.nd rfl (Or.inl rfl)) pgs_nil)))) (fun _ _ _ _ _ => pts_nil) (fun _ _ _ _ _ => (pe_tup (pa_cons (pe_op op_sub pe_int (pv 13)) (pa_cons (pv 12) pa_nil))))) pa_nil)))
      (pss_cons (ps_set (i := 11) sc.nd rfl (Or.inr rfl) (pe_lc (own := [("_law_tick", 13), ("_law_person", 12)]) (g := gTup _ 2 (gCons (gName 13) (gCons (gName 12) gNil))) rfl sc.nd (pi_list (pe_slice (kx_sl G) (pv 10) po_none (po_some (pv 7)))) (blkOk_by (own := [("_law_tick", 13), ("_law_person", 12)]) (N := n_law_ruled) (sc := defScope s_law_ruled) (by decide +kernel)) (fun _ _ _ _ _ => (pg_tup (by rfl) (pgs_cons (pg_name (i := 13) sc.nd rfl (Or.inl rfl)) (pgs_cons (pg_name (i := 12) sc.nd rfl (Or.inl rfl)) pgs_nil)))) (fun _ _ _ _ _ => pts_nil) (fun _ _ _ _ _ => (pv 12))))
      (pss_cons (ps_expr (pe_bm PySem.F.plainAttrs_list PySem.F.slot_list_append PySem.F.type_list_append mt_append (pv 6) (pa_cons (u_tuple G (pa_cons (u_sorted G (pa_cons (pv 11) pa_nil)) pa_nil)) pa_nil)))
      (pss_one (ps_expr (pe_bm PySem.F.plainAttrs_list PySem.F.slot_list_append PySem.F.type_list_append mt_append (pv 5) (pa_cons (u_tuple G (pa_cons (pe_lc (own := [("_law_person", 12), ("_law_tick", 13)]) (g := gTup _ 2 (gCons (gName 12) (gCons (gName 13) gNil))) rfl sc.nd (u_enum G (pa_cons (pv 9) pa_nil)) (blkOk_by (own := [("_law_person", 12), ("_law_tick", 13)]) (N := n_law_ruled) (sc := defScope s_law_ruled) (by decide +kernel)) (fun _ _ _ _ _ => (pg_tup (by rfl) (pgs_cons (pg_name (i := 12) sc.nd rfl (Or.inl rfl)) (pgs_cons (pg_name (i := 13) sc.nd rfl (Or.inl rfl)) pgs_nil)))) (fun _ _ _ _ _ => pts_nil) (fun _ _ _ _ _ => (pe_op (kx_add G) (pv 13) (pe_ix (kx_ix G) (pe_lst (pa_cons (pv 2) (pa_cons (pv 3) pa_nil))) (u_int G (pa_cons (pe_cmpR (kx_in G) (pv 12) (pv 11) (by rfl)) pa_nil)) (fun _ _ => rfl))))) pa_nil)) pa_nil)))))))))
      (pss_one (ps_ret (pe_lst (pa_cons (u_tuple G (pa_cons (pv 6) pa_nil)) (pa_cons (u_tuple G (pa_cons (pv 5) pa_nil)) pa_nil)))))))), fun ds d h => ?_⟩
    cases h with
    | mk w r bs starts hb hs h0 =>
      refine r_seq (r_asgT (e_var rfl) (g_tup (gs_cons g_name (gs_cons g_name (gs_cons g_name gs_nil)))) rfl) ?_
      refine r_seq (r_par3 (m_lst (ds := [intsD starts]) (a_cons (c_tup (a_cons (e_var rfl) a_nil) (.inr rfl)) a_nil) (by simp)) (m_lst (ds := []) a_nil (by decide)) (e_int) rfl (by decide) rfl rfl) ?_
      refine r_seqI (I := fun L' => ∃ s7 s8 s9 s10 s11 s12 s13, L' = [.d (roadD w r bs), .d (intsD starts), .d (.int w), .d (.int r), .d (intsD bs), .m (ticksD w r bs starts), .m (planD w r bs starts), s7, s8, s9, s10, s11, s12, s13])
        (r_for (js := [8]) (it_tup (e_var rfl)) (fun i L' => ∃ s8 s9 s10 s11, L' = [.d (roadD w r bs), .d (intsD starts), .d (.int w), .d (.int r), .d (intsD bs), .m ((List.range (i + 1)).map fun i => intsD (ticksAt w r bs starts i)), .m ((List.range i).map fun i => intsD (planAt w r bs starts i)), .d (.int (bs.take i).sum), s8, s9, s10, s11, .u, .u]) ⟨_, _, _, _, rfl⟩ (fun i d L' hd hI => ?_) (fun L' hI => ?_)) (fun M hM => ?_)
      · obtain ⟨b, hbi, rfl⟩ := map_inv hd
        have hlt := (List.getElem?_eq_some_iff.mp hbi).1
        obtain ⟨s8, s9, s10, s11, rfl⟩ := hI
        have lt : (ticksAt w r bs starts i).length ≤ 1000 := by rw [ticksAt_len]; exact hs
        have hk := cnt_snoc hbi
        rw [← cnt_nat h0 i] at hk
        have hlast : atI ((List.range (i + 1)).map fun i => intsD (ticksAt w r bs starts i)) (-1) = some (intsD (ticksAt w r bs starts i)) := by
          rw [List.range_succ, List.map_append]; exact atI_last _ _
        refine ⟨[.int b], g_name, ?_⟩
        refine r_seq (r_par (s := .d (.int ((cnt bs i).toNat : Int))) (a_cons ((e_add (e_var rfl) (e_var rfl)).is (by rw [hk])) (a_cons (e_ix (e_var rfl) (.inl rfl) (e_neg e_int) hlast) a_nil)) rfl rfl rfl) ?_
        generalize ht : ticksAt w r bs starts i = ticks at lt
        generalize hkk : (cnt bs i).toNat = k
        refine r_seq (r_asg (m_sortP (ps := keyP ticks) (qs := sortP (keyP ticks)) (a_cons (m_lcm (it_enumU (a_cons (e_var rfl) a_nil) (.inr rfl)) (rs := (keyP ticks).map pairD) (js := [12, 13]) (by rw [List.length_map, keyP_len, enumD_len, List.length_map]) (by simp) (fun i d r hd hr => ?_) (by rw [enumD_len, List.length_map]; omega)).d a_nil) rfl (fun ms h1 h2 => sortP_one h1 h2)).d rfl rfl) ?_
        · obtain ⟨x, hx, rfl⟩ := enum_inv hd
          obtain ⟨t, ht, rfl⟩ := map_inv hx
          have e := map_get (keyP_get ht) hr
          subst e
          exact ⟨[.int (i : Int), .int t], g_tup (gs_cons g_name (gs_cons g_name gs_nil)), e_tup (ds := [.int (0 - t), .int (i : Int)]) (a_cons (e_sub e_int (e_var rfl)) (a_cons (e_var rfl) a_nil)) (by simp)⟩
        refine r_seq (r_asg (m_lcm (it_list ((m_slt (e_var rfl) rfl o_none (o_some (e_var rfl))).is (cutD_to pairD (sortP (keyP ticks)) k)).d) (rs := (ridersU ticks k).map PyData.int) (js := [13, 12]) ?_ (by simp) (fun i d r hd hr => ?_) ?_).d rfl rfl) ?_
        · rw [List.length_map, List.length_map, ridersU_len]
          exact (lateP_len ticks k).symm
        · obtain ⟨q, hq, rfl⟩ := map_inv hd
          unfold ridersU at hr
          have hq2 : (lateP ticks k)[i]? = some q := hq
          rw [List.map_map] at hr
          have e := map_get hq2 hr
          subst e
          exact ⟨[.int q.1, .int q.2], g_tup (gs_cons g_name (gs_cons g_name gs_nil)), e_var rfl⟩
        · rw [List.length_map]
          have := lateP_len ticks k
          unfold lateP at this
          rw [this]
          omega
        refine r_seq (r_app (d := intsD (latest ticks k)) rfl (c_tup (a_cons (m_sortU (ns := ridersU ticks k) (ms := latest ticks k) (a_cons (e_var rfl) a_nil) (.inl rfl) (fun ms h1 h2 => sortI_one h1 h2)).d a_nil) (.inl rfl)) (by simp; omega) rfl) ?_
        refine r_app (d := intsD (stepT w r ticks k)) rfl (c_tup (a_cons (m_lcm (it_enumU (a_cons (e_var rfl) a_nil) (.inr rfl)) (js := [12, 13]) (by rw [List.length_map, stepT_len, enumD_len, List.length_map]) (by simp) (fun j d r' hd hr => ?_) (by rw [enumD_len, List.length_map]; omega)).d a_nil) (.inl rfl)) (by simp; omega) ⟨.d (.int b), .d (intsD ticks), .d (.list ((sortP (keyP ticks)).map pairD)), .d (.list ((ridersU ticks k).map PyData.int)), ?_⟩
        · obtain ⟨x, hx, rfl⟩ := enum_inv hd
          obtain ⟨t, ht, rfl⟩ := map_inv hx
          have e := map_get (stepT_get (w := w) (r := r) (k := k) ht) hr
          subst e
          refine ⟨[.int (j : Int), .int t], g_tup (gs_cons g_name (gs_cons g_name gs_nil)), e_add (e_var rfl) (e_ix (xs := [.int w, .int r]) (i := if decide ((j : Int) ∈ latest ticks k) then 1 else 0) (m_lst (ds := [.int w, .int r]) (a_cons (e_var rfl) (a_cons (e_var rfl) a_nil)) (by simp)).d (.inl rfl) (c_intB (a_cons ((e_in (e_var rfl) (e_var rfl) (.inl rfl) rfl (flat_ints _)).is ?_) a_nil)) ?_)⟩
          · rw [any_ints]
            congr 2
            rw [Bool.eq_iff_iff, decide_eq_true_eq, decide_eq_true_eq, latest_mem]
          · by_cases q : (j : Int) ∈ latest ticks k
            · rw [if_pos q, decide_eq_true q]; rfl
            · rw [if_neg q, decide_eq_false q]; rfl
        · subst ht
          subst hkk
          have e5 : (List.range (i + 1 + 1)).map (fun i => intsD (ticksAt w r bs starts i)) = (List.range (i + 1)).map (fun i => intsD (ticksAt w r bs starts i)) ++ [intsD (stepT w r (ticksAt w r bs starts i) (cnt bs i).toNat)] := by
            rw [List.range_succ (n := i + 1), List.map_append]; rfl
          have e6 : (List.range (i + 1)).map (fun i => intsD (planAt w r bs starts i)) = (List.range i).map (fun i => intsD (planAt w r bs starts i)) ++ [intsD (latest (ticksAt w r bs starts i) (cnt bs i).toNat)] := by
            rw [List.range_succ (n := i), List.map_append]; rfl
          have e7 : (bs.take (i + 1)).sum = ((cnt bs i).toNat : Int) := by rw [cnt_nat h0]; rfl
          rw [e5, e6, e7]
          rfl
      · obtain ⟨s8, s9, s10, s11, rfl⟩ := hI
        rw [List.length_map]
        exact ⟨_, _, _, _, _, _, _, rfl⟩
      · obtain ⟨s7, s8, s9, s10, s11, s12, s13, rfl⟩ := hM
        exact r_ret (m_lst (ds := [.tuple (planD w r bs starts), .tuple (ticksD w r bs starts)]) (a_cons (c_tup (a_cons (e_var rfl) a_nil) (.inl rfl)) (a_cons (c_tup (a_cons (e_var rfl) a_nil) (.inl rfl)) a_nil)) (by simp)).d rfl rfl

/-- the greatest -/
def maxL : List Int → Int
  | [] => 0
  | x :: l => l.foldl (fun a b => if a < b then b else a) x
theorem fold_mem : ∀ (l : List Int) (x : Int), l.foldl (fun a b => if a < b then b else a) x ∈ x :: l
  | [], x => List.mem_singleton.mpr rfl
  | y :: l, x => by
    rw [List.foldl_cons]
    have h := fold_mem l (if x < y then y else x)
    rcases List.mem_cons.mp h with e | e
    · rw [e]
      split
      · exact List.mem_cons_of_mem _ List.mem_cons_self
      · exact List.mem_cons_self
    · exact List.mem_cons_of_mem _ (List.mem_cons_of_mem _ e)
theorem fold_le : ∀ (l : List Int) (x : Int), ∀ y ∈ x :: l, y ≤ l.foldl (fun a b => if a < b then b else a) x
  | [], x, y, h => by rw [List.mem_singleton.mp h]; exact Int.le_refl x
  | z :: l, x, y, h => by
    rw [List.foldl_cons]
    have q := fold_le l (if x < z then z else x)
    have q0 := q _ List.mem_cons_self
    have q1 : x ≤ (if x < z then z else x) ∧ z ≤ (if x < z then z else x) := by split <;> omega
    rcases List.mem_cons.mp h with e | h
    · rw [e]; exact Int.le_trans q1.1 q0
    · rcases List.mem_cons.mp h with e | h
      · rw [e]; exact Int.le_trans q1.2 q0
      · exact q y (List.mem_cons_of_mem _ h)
theorem maxL_mem {l : List Int} (h : 0 < l.length) : maxL l ∈ l := by
  cases l with
  | nil => exact absurd h (Nat.lt_irrefl 0)
  | cons x l => exact fold_mem l x
theorem maxL_le {l : List Int} : ∀ y ∈ l, y ≤ maxL l := by
  cases l with
  | nil => intro y h; cases h
  | cons x l => exact fold_le l x
def finishOf (w r : Int) (bs starts : List Int) : Int := maxL (ticksAt w r bs starts bs.length)
inductive R_law_finish : List PyData → PyData → Prop
  | mk (w r : Int) (bs starts : List Int) (hb : bs.length ≤ 1000) (hs : starts.length ≤ 1000) (h1 : 0 < starts.length) (h0 : ∀ b ∈ bs, 0 ≤ b) : R_law_finish [roadD w r bs, intsD starts] (.int (finishOf w r bs starts))
theorem ticksD_last (w r : Int) (bs starts : List Int) : atI (ticksD w r bs starts) (-1) = some (intsD (ticksAt w r bs starts bs.length)) := by
  unfold ticksD
  rw [List.range_succ, List.map_append]
  exact atI_last _ _
abbrev s_law_finish : Stmt := top 77
abbrev n_law_finish : List Str := ["_law_road_here", "_law_starts_here"]
theorem sc_law_finish : FnScope n_law_finish ["_law_road_here", "_law_starts_here"] (defScope s_law_finish) := ⟨rfl, rfl, rfl, by decide +kernel, rfl, by decide +kernel, by decide +kernel⟩
theorem f_law_finish (G : Gs K mg) (c_law_ruled : Cal P w K mg base 1 "_law_ruled" R_law_ruled) (D : DefF K mg "_law_finish" s_law_finish) : Cal P w K mg base 2 "_law_finish" R_law_finish :=
  cal_of ["_law_road_here", "_law_starts_here"] D (fun _ _ _ _ _ _ us hl => match us, hl with | [_, _], _ => rfl) fun f fd Fn => by
    have sc := sc_law_finish
    refine fn_pure Fn sc (fun ds d h => by cases h <;> rfl) fun cdv A outer s H E hr => ?_
    have hu := hr.units
    refine ⟨_, (pss_one (ps_ret (u_max G (pa_cons (pe_ix (kx_ix G) (pe_ix (kx_ix G) (C8.pe_c c_law_ruled hr (by decide) (by rfl) (pa_cons (pv 0) (pa_cons (pv 1) pa_nil))) pe_int (fun _ _ => rfl)) (pe_un un_neg pe_int) (fun _ _ => rfl)) pa_nil)))), fun ds d h => ?_⟩
    cases h with
    | mk w r bs starts hb hs h1 h0 =>
      have hl : 0 < (ticksAt w r bs starts bs.length).length := by rw [ticksAt_len]; exact h1
      refine r_ret (c_maxT (ns := ticksAt w r bs starts bs.length) (m := finishOf w r bs starts) (a_cons (e_ix (e_ix (e_c (.mk w r bs starts hb hs h0) (a_cons (e_var rfl) (a_cons (e_var rfl) a_nil))) (.inl rfl) e_int rfl) (.inr rfl) (e_neg e_int) (ticksD_last w r bs starts)) a_nil) hl (maxL_mem hl) maxL_le) rfl rfl
end
end K45
-- BB
set_option maxHeartbeats 4000000
namespace K45
open PySem PySem.Spec PyProof.Rows L2
open Evl (Ex ex_rd ex_l ex_t)
section
variable {P : Program} {w : World} {K : PySem.W.Frag} {mg : Str → Option Value} {base : Heap}
/-- a number's text -/
def numS (n : Int) : Str := Str.ofString (toString n)
def Small (n : Int) : Prop := 0 ≤ n ∧ n < 10 ^ 10
theorem numS_len {n : Int} (h : Small n) : (numS n).length ≤ 10 := PySem.W.KT.len_num h.1 h.2
theorem small_log {n : Int} (h : Small n) : n.natAbs.log2 < 1920 := by
  have h1 : n.natAbs < 2 ^ 64 := by
    have := h.1
    have := h.2
    have e : (10 : Int) ^ 10 = 10000000000 := by decide
    have e2 : (2 : Nat) ^ 64 = 18446744073709551616 := by decide
    omega
  have := PySem.Flt.log2_lt_of (by decide : 0 < 64) h1
  omega
abbrev wordsOf (w r : Int) (bs ss : List Int) : List Str := [numS w ++ slash ++ numS r, Txt.join comma (bs.map numS), fromS, Txt.join comma (ss.map numS)]
def textOf (w r : Int) (bs ss : List Int) : Str := Txt.join blank1 (wordsOf w r bs ss)
theorem tl_app (x y : Str) : tl (x ++ y) = tl x ++ tl y := TL.tl_append x y
theorem app_len (x y : Str) : (x ++ y).length = x.length + y.length := by rw [len_tl, tl_app, List.length_append, ← len_tl, ← len_tl]
theorem joinL_len (s : List Nat) : ∀ {l : List (List Nat)} {n : Nat}, (∀ p ∈ l, p.length ≤ n) → (TL.joinL s l).length ≤ l.length * (n + s.length)
  | [], n, _ => Nat.zero_le _
  | [p], n, h => by
    show p.length ≤ _
    have := h p List.mem_cons_self
    simp; omega
  | p :: q :: l, n, h => by
    have ih := joinL_len s (l := q :: l) fun x hx => h x (List.mem_cons_of_mem _ hx)
    have := h p List.mem_cons_self
    have e : TL.joinL s (p :: q :: l) = p ++ (s ++ TL.joinL s (q :: l)) := by first | rfl | simp [TL.joinL]
    rw [e, List.length_append, List.length_append, List.length_cons, Nat.add_mul]
    omega
theorem join_tl (s : Str) (ys : List Str) : tl (Txt.join s ys) = TL.joinL (tl s) (ys.map tl) := (congrArg tl (TL.join_eq s ys)).trans (TL.tl_join s ys)
theorem join_len {s : Str} {ys : List Str} {n : Nat} (h : ∀ y ∈ ys, y.length ≤ n) : (Txt.join s ys).length ≤ ys.length * (n + s.length) := by
  rw [len_tl, join_tl]
  have := joinL_len (tl s) (l := ys.map tl) (n := n) fun p hp => by
    obtain ⟨y, hy, rfl⟩ := List.mem_map.mp hp
    rw [← len_tl]; exact h y hy
  rw [List.length_map, ← len_tl] at this
  exact this
theorem sum_le {l : List Nat} {n : Nat} (h : ∀ x ∈ l, x ≤ n) : l.sum ≤ l.length * n := by
  induction l with
  | nil => exact Nat.zero_le _
  | cons x l ih =>
    have := h x List.mem_cons_self
    have := ih fun y hy => h y (List.mem_cons_of_mem _ hy)
    rw [List.sum_cons, List.length_cons, Nat.add_mul]; omega
theorem join_fit {s : Str} {ys : List Str} {n : Nat} (h : ∀ y ∈ ys, y.length ≤ n) (hs : s.length ≤ 1) (hz : ys.length ≤ 1000) (hn : n ≤ 15000) : (ys.map (·.length)).sum + ys.length * s.length ≤ 16777216 := by
  have := sum_le (l := ys.map (·.length)) (n := n) fun x hx => by
    obtain ⟨y, hy, rfl⟩ := List.mem_map.mp hx
    exact h y hy
  rw [List.length_map] at this
  have h1 : ys.length * n ≤ 1000 * 15000 := Nat.mul_le_mul hz hn
  have h2 : ys.length * s.length ≤ 1000 * 1 := Nat.mul_le_mul hz hs
  omega
inductive R_law_text : List PyData → PyData → Prop
  | mk (w r : Int) (bs ss : List Int) (hw : Small w) (hr : Small r) (hb : ∀ b ∈ bs, Small b) (hs : ∀ b ∈ ss, Small b) (lb : bs.length ≤ 1000) (ls : ss.length ≤ 1000) : R_law_text [roadD w r bs, intsD ss] (.str (textOf w r bs ss))
theorem map_strs (f : Int → Str) (l : List Int) : (l.map f).map PyData.str = l.map fun n => .str (f n) := by rw [List.map_map]; rfl
abbrev s_law_text : Stmt := top 84
abbrev n_law_text : List Str := ["_law_road_here", "_law_starts_here", "_law_words", "_law_number_here", "_law_start"]
theorem sc_law_text : FnScope n_law_text ["_law_road_here", "_law_starts_here"] (defScope s_law_text) := ⟨rfl, rfl, rfl, by decide +kernel, rfl, by decide +kernel, by decide +kernel⟩
theorem f_law_text (G : Gs K mg)  (D : DefF K mg "_law_text" s_law_text) : Cal P w K mg base 1 "_law_text" R_law_text :=
  cal_of ["_law_road_here", "_law_starts_here"] D (fun _ _ _ _ _ _ us hl => match us, hl with | [_, _], _ => rfl) fun f fd Fn => by
    have sc := sc_law_text
    refine fn_pure Fn sc (fun ds d h => by cases h <;> rfl) fun cdv A outer s H E hr => ?_
    have hu := hr.units
    refine ⟨_, (pss_cons (ps_set (i := 2) sc.nd rfl (Or.inl rfl) (pe_lst (pa_cons (pe_op (kx_add G) (pe_op (kx_add G) (u_str G (pa_cons (pe_ix (kx_ix G) (pv 0) pe_int (fun _ _ => rfl)) pa_nil)) pe_str) (u_str G (pa_cons (pe_ix (kx_ix G) (pv 0) pe_int (fun _ _ => rfl)) pa_nil))) (pa_cons (pe_join pe_str (pe_lc (own := [("_law_number_here", 3)]) (g := gName 3) rfl sc.nd (pi_tup (pe_ix (kx_ix G) (pv 0) pe_int (fun _ _ => rfl))) (blkOk_by (own := [("_law_number_here", 3)]) (N := n_law_text) (sc := defScope s_law_text) (by decide +kernel)) (fun _ _ _ _ _ => (pg_name (i := 3) sc.nd rfl (Or.inl rfl))) (fun _ _ _ _ _ => pts_nil) (fun _ _ _ _ _ => (u_str G (pa_cons (pv 3) pa_nil))))) (pa_cons pe_str pa_nil)))))
      (pss_one (ps_ret (pe_join pe_str (pe_op (kx_add G) (pv 2) (pe_lst (pa_cons (pe_join pe_str (pe_lc (own := [("_law_start", 4)]) (g := gName 4) rfl sc.nd (pi_tup (pv 1)) (blkOk_by (own := [("_law_start", 4)]) (N := n_law_text) (sc := defScope s_law_text) (by decide +kernel)) (fun _ _ _ _ _ => (pg_name (i := 4) sc.nd rfl (Or.inl rfl))) (fun _ _ _ _ _ => pts_nil) (fun _ _ _ _ _ => (u_str G (pa_cons (pv 4) pa_nil))))) pa_nil))))))), fun ds d h => ?_⟩
    cases h with
    | mk w r bs ss hw hr hb hs lb ls =>
      have nb : ∀ {l : List Int}, (∀ b ∈ l, Small b) → ∀ y ∈ l.map numS, y.length ≤ 10 := fun {l} h y hy => by
        obtain ⟨b, hb, rfl⟩ := List.mem_map.mp hy
        exact numS_len (h b hb)
      have lw := numS_len hw
      have lr := numS_len hr
      have lwr : (numS w ++ slash).length ≤ 11 := by rw [app_len]; show _ + 1 ≤ _; omega
      have lwr2 : (numS w ++ slash ++ numS r).length ≤ 21 := by rw [app_len]; omega
      have jb : (Txt.join comma (bs.map numS)).length ≤ 11000 := by
        have := join_len (s := comma) (nb hb)
        rw [List.length_map] at this
        have e : bs.length * (10 + comma.length) ≤ 1000 * 11 := Nat.mul_le_mul lb (by decide)
        omega
      have js : (Txt.join comma (ss.map numS)).length ≤ 11000 := by
        have := join_len (s := comma) (nb hs)
        rw [List.length_map] at this
        have e : ss.length * (10 + comma.length) ≤ 1000 * 11 := Nat.mul_le_mul ls (by decide)
        omega
      refine r_seq (r_asg (m_lst (ds := [.str (numS w ++ slash ++ numS r), .str (Txt.join comma (bs.map numS)), .str fromS]) (a_cons (e_adds (y := numS r) (e_adds (x := numS w) (y := slash) (c_str (i := w) (a_cons (e_ix (e_var rfl) (.inr rfl) e_int rfl) a_nil) (small_log hw)) e_str (by show _ + 1 ≤ sizeLine; exact Nat.le_trans (Nat.add_le_add_right lw 1) (by decide))) (c_str (i := r) (a_cons (e_ix (e_var rfl) (.inr rfl) e_int rfl) a_nil) (small_log hr)) (Nat.le_trans (Nat.add_le_add lwr lr) (by decide))) (a_cons (e_join (x := comma) (ys := bs.map numS) e_str (m_lcm (js := [3]) (it_tup (e_ix (i := 2) (d := intsD bs) (e_var rfl) (.inr rfl) e_int rfl)) (by simp) (by simp) (fun i d r' hd hr' => ?_) (by simp; omega)).d rfl (join_fit (nb hb) (by decide) (by simpa using lb) (by decide))) (a_cons e_str a_nil))) (by simp)).d rfl rfl) ?_
      · obtain ⟨b, hbi, rfl⟩ := map_inv hd
        rw [map_strs] at hr'
        have e := map_get hbi hr'
        subst e
        exact ⟨[.int b], g_name, c_str (i := b) (a_cons (e_var rfl) a_nil) (small_log (hb b (List.mem_of_getElem? hbi)))⟩
      refine r_ret (e_join (x := blank1) (ys := wordsOf w r bs ss) e_str (m_add (xs := [.str (numS w ++ slash ++ numS r), .str (Txt.join comma (bs.map numS)), .str fromS]) (ys := [.str (Txt.join comma (ss.map numS))]) (e_var rfl) rfl (m_lst (ds := [.str (Txt.join comma (ss.map numS))]) (a_cons (e_join (x := comma) (ys := ss.map numS) e_str (m_lcm (js := [4]) (it_tup (e_var rfl)) (by simp) (by simp) (fun i d r' hd hr' => ?_) (by simp; omega)).d rfl (join_fit (nb hs) (by decide) (by simpa using ls) (by decide))) a_nil) (by simp)).d rfl (by show (4 : Nat) ≤ sizeLine; decide)).d rfl (join_fit (n := 11000) ?_ (by decide) (by simp) (by decide))) rfl rfl
      · obtain ⟨b, hbi, rfl⟩ := map_inv hd
        rw [map_strs] at hr'
        have e := map_get hbi hr'
        subst e
        exact ⟨[.int b], g_name, c_str (i := b) (a_cons (e_var rfl) a_nil) (small_log (hs b (List.mem_of_getElem? hbi)))⟩
      · intro y hy
        simp only [wordsOf, List.mem_cons, List.not_mem_nil, or_false] at hy
        rcases hy with rfl | rfl | rfl | rfl
        · omega
        · exact jb
        · decide
        · exact js
end
end K45
-- BC
set_option maxHeartbeats 4000000
namespace K45
open PySem PySem.Spec PyProof.Rows L2
open Evl (Ex ex_rd ex_l ex_t)
/-! ### a generator over plain data -/
def spGen (R : List PyData → List PyData → Prop) : Gn.SpG := fun vs H Q => ∃ B ds rs, Ex B H ∧ RpAll B vs ds ∧ R ds rs ∧ ∀ ys B' H', Grow B H B' H' → RpAll B' ys rs → Q ys H'
def RunG (F : Fx) (t : Gn.TGn) (L : List Sl) (yd : List PyData) (P : List Sl → List PyData → Prop) : Prop :=
  ∀ (H0 B0 B H : Hp) (σ : St) (D : Gn.GEnds) (ys : List V), F H0 B0 → Grow B0 H0 B H → Env H0 B H σ L → RpAll B ys yd →
    (∀ L' yd' B' H' σ' ys', P L' yd' → Grow B0 H0 B' H' → Ex B B' → Env H0 B' H' σ' L' → RpAll B' ys' yd' → D.nx ys' σ' H') → t D ys σ H
section
variable {K : PySem.W.Frag} {F : Fx} {L : List Sl} {yd : List PyData} {P : List Sl → List PyData → Prop} {tx : TS} {ty tg1 : Gn.TGn} {te : TE}
theorem rg_plain {M : List Sl} (h : RunE F tx L { nx := fun L' => L' = M }) (k : P M yd) : RunG F (Gn.tPlain tx) L yd P := fun H0 B0 B H σ D ys f g E ry n =>
  h H0 B0 B H σ (D.at ys) f g E (fun L' B' H' σ' e g' x E' => by subst e; exact n _ yd B' H' σ' ys k g' x E' (dpa_mono x ry)) (fun _ _ _ _ z => z.elim) (fun _ _ _ _ z => z.elim) (fun _ _ _ _ z => z.elim)
theorem rg_seq {I : List Sl → List PyData → Prop} (h : RunG F tg1 L yd I) (k : ∀ M zd, I M zd → RunG F ty M zd P) : RunG F (Gn.tGThen tg1 ty) L yd P := fun H0 B0 B H σ D ys f g E ry n =>
  h H0 B0 B H σ _ ys f g E ry fun L' yd' B' H' σ' ys' i g' x E' ry' => k L' yd' i H0 B0 B' H' σ' D ys' f g' E' ry' fun L2 yd2 B2 H2 σ2 ys2 p g2 x2 E2 ry2 => n L2 yd2 B2 H2 σ2 ys2 p g2 (x.trans x2) E2 ry2
theorem rg_seqP {M : List Sl} (h : RunE F tx L { nx := fun L' => L' = M }) (k : RunG F ty M yd P) : RunG F (Gn.tGThen (Gn.tPlain tx) ty) L yd P :=
  rg_seq (I := fun M' zd => M' = M ∧ zd = yd) (rg_plain h ⟨rfl, rfl⟩) fun M' zd ⟨e1, e2⟩ => by subst e1; subst e2; exact k
theorem rg_nil (k : P L yd) : RunG F Gn.tG0 L yd P := fun H0 B0 B H σ D ys f g E ry n => n L yd B H σ ys k g (Ex.refl B) E ry
theorem rg_yield {x0 x1 x2 : PyData} (h : EvE F te L (.d (.tuple [x0, x1, x2]))) (hz : yd.length ≤ 1000) (k : P L (yd ++ [x2])) : RunG F (Gn.tGYield te) L yd P := fun H0 B0 B H σ D ys f g E ry n => by
  have hl := RpAll.len ry
  refine ⟨Nat.lt_of_le_of_lt (by omega : ys.length ≤ 1000) (by decide), h H0 B0 B H σ f g E _ fun v B1 H1 g1 o1 => ?_⟩
  obtain ⟨t, vs, rfl, et, rt⟩ := dp_tup o1
  have ln := RpAll.len rt
  match vs, ln, rt with
  | [v0, v1, v2], _, .cons r0 (.cons r1 (.cons r2 .nil)) =>
    exact ⟨t, v0, v1, v2, rfl, g1.bh _ _ et, n L _ B1 H1 σ _ k (g.trans g1) g1.bb (E.mono g1) (RpAll.append (dpa_mono g1.bb ry) (dpa_one r2))⟩
theorem rg_for {wi : TI} {g : TG} {js : List Nat} {ds : List PyData} (hi : IterE F wi L ds) (I : Nat → List Sl → List PyData → Prop) (h0 : I 0 L yd)
    (turn : ∀ (i : Nat) d L' yd', ds[i]? = some d → I i L' yd' → ∃ es, TgE g js d es ∧ RunG F ty (setAllD L' js es) yd' (I (i + 1)))
    (hd : ∀ L' yd', I ds.length L' yd' → P L' yd') : RunG F (Gn.tGFor wi g ty) L yd P := fun H0 B0 B H σ D ys f g0 E ry n => by
  refine hi H0 B0 B H σ f g0 E _ fun J B1 H1 g1 W => ?_
  obtain ⟨G, Y, w, hG, hY⟩ := W
  refine ⟨fun i m ys σ' H' => m = ds.length - i ∧ i ≤ ds.length ∧ ∃ L' yd' B', I i L' yd' ∧ Grow B0 H0 B' H' ∧ Ex B1 B' ∧ Env H0 B' H' σ' L' ∧ RpAll B' ys yd', ⟨ds.length, by simp, Nat.zero_le _, L, yd, B1, h0, g0.trans g1, Ex.refl _, E.mono g1, dpa_mono g1.bb ry⟩, ?_⟩
  rintro i m ys' σ' H' ⟨rfl, hle, L', yd', B', hI, gg, e, E', ry'⟩
  have q := hG B' H' e gg.bh
  by_cases hlt : i < ds.length
  · refine .inr ⟨w.goes i H' hlt q, fun ys2 σ2 H2 => i + 1 ≤ ds.length ∧ ∃ L' yd' B', I (i + 1) L' yd' ∧ Grow B0 H0 B' H2 ∧ Ex B1 B' ∧ Env H0 B' H2 σ2 L' ∧ RpAll B' ys2 yd', fun ys2 σ2 H2 p => ⟨ds.length - (i + 1), by omega, rfl, p⟩, fun x H2 y => ?_⟩
    obtain ⟨B2, d, g2, hd', rx⟩ := hY i H' x H2 B' e gg.bh hlt (w.yields i H' x H2 hlt q y)
    obtain ⟨es, tg, run⟩ := turn i d L' yd' hd' hI
    refine tg B2 H2 σ' x _ g2.bh rx fun ws rws hl => ?_
    exact run H0 B0 B2 H2 _ _ ys' f (gg.trans g2) ((E'.mono g2).setAll rws) (dpa_mono g2.bb ry') fun L2 yd2 B3 H3 σ3 ys3 i2 g3 e3 E3 ry3 => ⟨hlt, L2, yd2, B3, i2, g3, (e.trans g2.bb).trans e3, E3, ry3⟩
  · have ei : i = ds.length := by omega
    subst ei
    exact .inl ⟨w.stops H' q, n L' yd' B' H' σ' ys' (hd L' yd' hI) gg (g1.bb.trans e) E' ry'⟩
theorem m_lcg {R : List PyData → List PyData → Prop} {ds rs : List PyData} {tr : TA} (hR : R ds rs) (h : EvA F tr L (ds.map Sl.d)) : EvM F (Gn.tLcG (spGen R) tr) L rs := fun H0 B0 B H σ f g E Q q =>
  h H0 B0 B H σ f g E _ fun vs B1 H1 g1 o1 => ⟨B1, ds, rs, g1.bh, OkAll.rp o1, hR, fun ys B2 H2 g2 ry D hD => by
    have gg := g1.trans g2
    exact q D ys B2 _ (gg.trans (Grow.side gg.bh hD)) (Evl.fresh_back gg.hh hD) (Evl.fresh_back gg.bh hD) upd_same ry⟩
end
section
variable {P : Program} {w : World} {K : PySem.W.Frag} {mg : Str → Option Value} {base : Heap}
structure CalG (P : Program) (w : World) (K : PySem.W.Frag) (mg : Str → Option Value) (base : Heap) (k : Nat) (x : Str) (sp : Gn.SpG) : Prop where
  ex : ∃ (f : Addr) (fd : FuncData) (ps : List Str), Gn.GFn P w K mg base k f fd ps sp ∧ mg x = some (.ref f) ∧ PySem.W.keepIn K (.ref f) = true ∧ Binds K fd ps []
theorem gfn_pure {x qual : Str} {st : Stmt} {f : Addr} {fd : FuncData} {N ps : List Str} {k : Nat} {R : List PyData → List PyData → Prop} (Fn : Fun K x qual st f fd) (S : GScope N ps (defScope st)) (len : ∀ ds rs, R ds rs → ds.length = ps.length)
    (body : ∀ (cdv : Value) (A : Around) (outer : List PySem.Env) (s : Shared) (H : Hp) (pn : List (Addr × Obj)), Room k (A.deeper (envOfC qual (defScope st) s.heap.objs.size f cdv)) →
      ∃ t, Gn.GSs (Gn.gX P w K mg base N qual (defScope st) f cdv A outer s H pn) (defBody st) t ∧ ∀ ds rs, R ds rs → RunG (fun _ _ => True) t (startD N ds) [] (fun _ yd => yd = rs)) : Gn.GFn P w K mg base (k + 1) f fd ps (spGen R) := by
  obtain ⟨oc, od, kV, doc, pm, an, cdv, ct, osl, rfl, lk, hcd⟩ := Fn.ex
  refine Gn.gfn_of lk hcd S (fun vs H Q h => ?_) fun A outer s H vs Q pn hr h => ?_
  · obtain ⟨B, ds, rs, _, ra, hR, _⟩ := h
    rw [RpAll.len ra]; exact len ds rs hR
  · obtain ⟨B, ds, rs, eb, ra, hR, q⟩ := h
    obtain ⟨t, p, run⟩ := body cdv A outer s H pn hr
    exact ⟨t, p, run ds rs hR H B B H _ _ [] trivial (.rfl' eb) (env_start ra) .nil fun L' yd' B' H' σ' ys' e g _ _ ry => by subst e; exact q ys' B' H' g ry⟩
theorem calG_of {x : Str} {st : Stmt} {k : Nat} {sp : Gn.SpG} (ps : List Str) (D : DefF K mg x st) (b : Bnd x st ps) (h : ∀ f fd, Fun K x x st f fd → Gn.GFn P w K mg base k f fd ps sp) : CalG P w K mg base k x sp := by
  obtain ⟨f, fd, Fn, m⟩ := D
  exact ⟨f, fd, ps, h f fd Fn, m, Fn.kp, Fn.binds b⟩
/-- all that is asked of a road and of starts -/
structure Good (w r : Int) (bs starts : List Int) : Prop where
  wr : okTicks w r = true
  lb : 1 ≤ bs.length ∧ bs.length ≤ 12
  b : ∀ b ∈ bs, 0 ≤ b ∧ b ≤ 12
  ls : 1 ≤ starts.length ∧ starts.length ≤ 10
  s : ∀ t ∈ starts, 0 ≤ t ∧ t ≤ 1000000
theorem Good.b0 {w r : Int} {bs starts : List Int} (g : Good w r bs starts) : ∀ b ∈ bs, 0 ≤ b := fun b h => (g.b b h).1
/-- the bicycles that the last stage's riders leave -/
def leftAt (w r : Int) (bs starts : List Int) : Nat → List Int
  | 0 => []
  | i + 1 => (planAt w r bs starts i).map (tk (ticksAt w r bs starts (i + 1)))
theorem cnt_step {bs : List Int} (h0 : ∀ b ∈ bs, 0 ≤ b) {i : Nat} (hi : i + 1 < bs.length) : (cnt bs (i + 1)).toNat = (cnt bs i).toNat + bs[i + 1].toNat := by
  have h1 := cnt_succ hi
  have h2 := cnt_pos h0 i
  have h3 := h0 _ (List.getElem_mem hi)
  omega
theorem no_wait {w r : Int} {bs starts : List Int} (g : Good w r bs starts) {i : Nat} (hi : i < bs.length) : ∀ (j : Nat) (q : Int × Int) (m : Int), (queueOf (ticksAt w r bs starts i) (planAt w r bs starts i))[j]? = some q →
    (sortI (leftAt w r bs starts i ++ List.replicate bs[i].toNat 0))[j]? = some m → m ≤ q.1 := by
  intro j q m h1 h2
  obtain ⟨k1, k2, k3, k4, k5⟩ := okTicks_le g.wr
  have pos := ticksAt_pos (w := w) (r := r) (bs := bs) (by omega) (by omega) (fun t h => (g.s t h).1) i
  cases i with
  | zero =>
    refine nobody_waits (old := starts) (k' := 0) (b := bs[0].toNat) pos rfl ?_ h1 ?_
    · rw [cnt_zero hi]; omega
    · have e : latest starts 0 = [] := by
        apply List.eq_nil_of_length_eq_zero
        rw [latest_len, Nat.zero_min]
      rw [e]; exact h2
  | succ i =>
    refine nobody_waits (old := ticksAt w r bs starts i) (k' := (cnt bs i).toNat) (b := bs[i + 1].toNat) pos (by rw [ticksAt_len, ticksAt_len]) ?_ h1 h2
    rw [cnt_step g.b0 hi]
    exact Nat.le_refl _
inductive R_stages_of : List PyData → List PyData → Prop
  | mk (w r : Int) (bs starts : List Int) (g : Good w r bs starts) : R_stages_of [roadD w r bs, intsD starts, .tuple (planD w r bs starts)] ((List.range bs.length).map fun i => intsD (ticksAt w r bs starts (i + 1)))
theorem plan_mem {w r : Int} {bs starts : List Int} {i : Nat} : ∀ p ∈ planAt w r bs starts i, ∃ j : Nat, j < (ticksAt w r bs starts i).length ∧ p = (j : Int) := fun p hp => ridersU_mem (latest_mem.mp hp)
theorem plan_len {w r : Int} {bs starts : List Int} {i : Nat} : (planAt w r bs starts i).length ≤ starts.length := by
  unfold planAt
  rw [latest_len, ticksAt_len]
  exact Nat.min_le_right _ _
theorem left_len {w r : Int} {bs starts : List Int} : ∀ i, (leftAt w r bs starts i).length ≤ starts.length
  | 0 => Nat.zero_le _
  | i + 1 => by unfold leftAt; rw [List.length_map]; exact plan_len
theorem replicate_one {α : Type} (n : Nat) (x : α) : (List.replicate n [x]).flatten = List.replicate n x := by
  induction n with
  | zero => rfl
  | succ n ih => rw [List.replicate_succ, List.flatten_cons, ih]; rfl
abbrev s_stages_of : Stmt := top 37
abbrev n_stages_of : List Str := ["road", "starts", "plan", "walk", "ride", "bikes", "ticks", "left", "riders", "number", "leaves", "after", "person", "leave"]
theorem sc_stages_of : GScope n_stages_of ["road", "starts", "plan"] (defScope s_stages_of) := ⟨rfl, rfl, rfl, by decide +kernel, rfl, by decide +kernel, by decide +kernel⟩
theorem f_stages_of (G : Gs K mg) (c_leaves_of : Cal P w K mg base 1 "leaves_of" R_leaves_of) (D : DefF K mg "stages_of" s_stages_of) : CalG P w K mg base 2 "stages_of" (spGen R_stages_of) :=
  calG_of ["road", "starts", "plan"] D (fun _ _ _ _ _ _ us hl => match us, hl with | [_, _, _], _ => rfl) fun f fd Fn => by
    have sc := sc_stages_of
    refine gfn_pure Fn sc (fun ds d h => by cases h <;> rfl) fun cdv A outer s H pn hr => ?_
    have hu := hr.units
    have nx : Gn.Nox (Gn.gX P w K mg base n_stages_of "stages_of" (defScope s_stages_of) f cdv A outer s H pn) := fun _ _ h => h
    refine ⟨_, (Gn.gss_cons (Gn.gs_ps nx (ps_asg (pv 0) (pg_tup (by rfl) (pgs_cons (pg_name (i := 3) sc.nd rfl (Or.inr rfl)) (pgs_cons (pg_name (i := 4) sc.nd rfl (Or.inr rfl)) (pgs_cons (pg_name (i := 5) sc.nd rfl (Or.inl rfl)) pgs_nil))))))
 (Gn.gss_cons (Gn.gs_ps nx (ps_par (i := 6) (j := 7) rfl sc.nd rfl rfl (by decide) rfl rfl (pa_cons (u_tuple G (pa_cons (pv 1) pa_nil)) (pa_cons (pe_lst pa_nil) pa_nil)) (by rfl)))
 (Gn.gss_cons (Gn.gs_for nx rfl (u_zip G (pa_cons (pv 2) (pa_cons (pv 5) pa_nil))) (pg_tup (by rfl) (pgs_cons (pg_name (i := 8) sc.nd rfl (Or.inr rfl)) (pgs_cons (pg_name (i := 9) sc.nd rfl (Or.inl rfl)) pgs_nil))) (Gn.gss_cons (Gn.gs_ps nx (ps_set (i := 10) sc.nd rfl (Or.inl rfl) (C8.pe_c c_leaves_of hr (by decide) (by rfl) (pa_cons (pv 6) (pa_cons (pv 8) (pa_cons (pe_lst (StX.pa_star (pv 7) (StX.pa_star (pe_op (kx_mul G) (pe_lst (pa_cons pe_int pa_nil)) (pv 9)) pa_nil))) pa_nil))))))
 (Gn.gss_cons (Gn.gs_ps nx (ps_set (i := 11) sc.nd rfl (Or.inr rfl) (pe_lc (own := [("person", 12), ("leave", 13)]) (g := gTup _ 2 (gCons (gName 12) (gCons (gName 13) gNil))) rfl sc.nd (u_enum G (pa_cons (pv 10) pa_nil)) (blkOk_by (own := [("person", 12), ("leave", 13)]) (N := n_stages_of) (sc := defScope s_stages_of) (by decide +kernel)) (fun _ _ _ _ _ => (pg_tup (by rfl) (pgs_cons (pg_name (i := 12) sc.nd rfl (Or.inl rfl)) (pgs_cons (pg_name (i := 13) sc.nd rfl (Or.inl rfl)) pgs_nil)))) (fun _ _ _ _ _ => pts_nil) (fun _ _ _ _ _ => (pe_op (kx_add G) (pv 13) (pe_ifExp (pt_cmpR (kx_in G) (pv 12) (pv 8) (by rfl)) (pv 4) (pv 3)))))))
 (Gn.gss_cons (Gn.gs_yield nx (pe_tup (pa_cons (pv 6) (pa_cons (pv 10) (pa_cons (u_tuple G (pa_cons (pv 11) pa_nil)) pa_nil)))))
 (Gn.gss_cons (Gn.gs_ps nx (ps_par (i := 6) (j := 7) rfl sc.nd rfl rfl (by decide) rfl rfl (pa_cons (u_tuple G (pa_cons (pv 11) pa_nil)) (pa_cons (pe_lc (own := [("person", 12)]) (g := gName 12) rfl sc.nd (pi_tup (pv 8)) (blkOk_by (own := [("person", 12)]) (N := n_stages_of) (sc := defScope s_stages_of) (by decide +kernel)) (fun _ _ _ _ _ => (pg_name (i := 12) sc.nd rfl (Or.inl rfl))) (fun _ _ _ _ _ => pts_nil) (fun _ _ _ _ _ => (pe_ix (kx_ix G) (pv 11) (pv 12) (fun _ _ => rfl)))) pa_nil)) (by rfl))) Gn.gss_nil))))) Gn.gss_nil))), fun ds rs h => ?_⟩
    cases h with
    | mk w r bs starts gd =>
      refine rg_seqP (r_asgT (e_var rfl) (g_tup (gs_cons g_name (gs_cons g_name (gs_cons g_name gs_nil)))) rfl) ?_
      refine rg_seqP (r_par (s := .d (intsD starts)) (t := .d (.list [])) (a_cons (c_tup (a_cons (e_var rfl) a_nil) (.inr rfl)) (a_cons (m_lst (ds := []) a_nil (by decide)).d a_nil)) rfl rfl rfl) ?_
      refine rg_seq (I := fun _ yd => yd = (List.range bs.length).map fun i => intsD (ticksAt w r bs starts (i + 1))) (rg_for (js := [8, 9]) (it_zipT (xs := planD w r bs starts) (ys := bs.map PyData.int) (a_cons (e_var rfl) (a_cons (e_var rfl) a_nil)))
        (fun i L' yd => i ≤ bs.length ∧ yd = ((List.range i).map fun i => intsD (ticksAt w r bs starts (i + 1))) ∧ ∃ s8 s9 s10 s11, L' = [.d (roadD w r bs), .d (intsD starts), .d (.tuple (planD w r bs starts)), .d (.int w), .d (.int r), .d (intsD bs), .d (intsD (ticksAt w r bs starts i)), .d (.list ((leftAt w r bs starts i).map PyData.int)), s8, s9, s10, s11, .u, .u])
        ⟨Nat.zero_le _, rfl, _, _, _, _, rfl⟩ (fun i d L' yd hd hI => ?_) (fun L' yd hI => ?_)) (fun M yd e => rg_nil e)
      · obtain ⟨x, y, hx, hy, rfl⟩ := zip_inv hd
        obtain ⟨b, hb, rfl⟩ := map_inv hy
        have hlt := (List.getElem?_eq_some_iff.mp hb).1
        have hbe : b = bs[i] := by rw [List.getElem?_eq_getElem hlt] at hb; exact (Option.some.inj hb).symm
        have hx : x = intsD (planAt w r bs starts i) := by
          unfold planD at hx
          rw [List.getElem?_map, List.getElem?_range hlt] at hx
          exact (Option.some.inj hx).symm
        subst hx
        obtain ⟨hle, rfl, s8, s9, s10, s11, rfl⟩ := hI
        have b12 := gd.b b (by rw [hbe]; exact List.getElem_mem hlt)
        have hls := gd.ls.2
        have tl := ticksAt_len (w := w) (r := r) (bs := bs) (starts := starts) i
        have pl := plan_len (w := w) (r := r) (bs := bs) (starts := starts) (i := i)
        have ll := left_len (w := w) (r := r) (bs := bs) (starts := starts) i
        refine ⟨[intsD (planAt w r bs starts i), .int b], g_tup (gs_cons g_name (gs_cons g_name gs_nil)), ?_⟩
        refine rg_seqP (r_asg (e_c (.mk (ticksAt w r bs starts i) (planAt w r bs starts i) (leftAt w r bs starts i ++ List.replicate b.toNat 0) (by omega) (by omega) plan_mem (by rw [hbe]; exact no_wait gd hlt)) (a_cons (e_var rfl) (a_cons (e_var rfl) (a_cons ((m_lst (ds := (leftAt w r bs starts i ++ List.replicate b.toNat 0).map PyData.int) ((a_star (xs := (leftAt w r bs starts i).map PyData.int) (e_var rfl) (.inl rfl) (a_star (m_mul (xs := [.int 0]) (k := b) (m_lst (ds := [.int 0]) (a_cons e_int a_nil) (by simp)).d rfl (e_var rfl) (by omega) (by omega) (by simp)).d (.inl rfl) a_nil)).is ?_) ?_).d) a_nil)))) rfl rfl) ?_
        · rw [replicate_one]; simp
        · rw [List.length_map, List.length_append, List.length_replicate]; omega
        refine rg_seqP (r_asg (m_lcm (rs := (ticksAt w r bs starts (i + 1)).map PyData.int) (it_enumU (a_cons (e_var rfl) a_nil) (.inl rfl)) (js := [12, 13]) (by rw [List.length_map, ticksAt_len, enumD_len, List.length_map, ticksAt_len]) (by simp) (fun j d r' hd hr => ?_) (by rw [enumD_len, List.length_map]; omega)).d rfl rfl) ?_
        · obtain ⟨x, hx, rfl⟩ := enum_inv hd
          obtain ⟨t, ht, rfl⟩ := map_inv hx
          have e := map_get (stepT_get (w := w) (r := r) (k := (cnt bs i).toNat) ht) hr
          subst e
          refine ⟨[.int (j : Int), .int t], g_tup (gs_cons g_name (gs_cons g_name gs_nil)), e_add (e_var rfl) (e_if (b := decide ((j : Int) ∈ planAt w r bs starts i)) ((t_test (e_in (e_var rfl) (e_var rfl) (.inr rfl) rfl (flat_ints _))).is (any_ints _ _)) (fun h => (e_var rfl).is ?_) fun h => (e_var rfl).is ?_)⟩
          · rw [if_pos (show (j : Int) ∈ latest _ _ from of_decide_eq_true h)]
          · rw [if_neg (show ¬ (j : Int) ∈ latest _ _ from of_decide_eq_false h)]
        have tl1 := ticksAt_len (w := w) (r := r) (bs := bs) (starts := starts) (i + 1)
        refine rg_seq (I := fun M yd => yd = ((List.range (i + 1)).map fun i => intsD (ticksAt w r bs starts (i + 1))) ∧ M = _) (rg_yield (x0 := intsD (ticksAt w r bs starts i)) (x1 := .list ((ticksAt w r bs starts i).map PyData.int)) (x2 := intsD (ticksAt w r bs starts (i + 1))) (e_tup (ds := [intsD (ticksAt w r bs starts i), .list ((ticksAt w r bs starts i).map PyData.int), intsD (ticksAt w r bs starts (i + 1))]) (a_cons (e_var rfl) (a_cons (e_var rfl) (a_cons (c_tup (a_cons (e_var rfl) a_nil) (.inl rfl)) a_nil))) (by simp)) (by have := gd.lb.2; simp; omega) ⟨by rw [List.range_succ (n := i), List.map_append]; rfl, rfl⟩) fun M yd ⟨e1, e2⟩ => ?_
        subst e1
        subst e2
        refine rg_seq (I := fun M yd => yd = ((List.range (i + 1)).map fun i => intsD (ticksAt w r bs starts (i + 1))) ∧ M = _) (rg_plain (r_par (s := .d (intsD (ticksAt w r bs starts (i + 1)))) (t := .d (.list ((leftAt w r bs starts (i + 1)).map PyData.int))) (a_cons (c_tup (a_cons (e_var rfl) a_nil) (.inl rfl)) (a_cons (m_lcm (it_tup (e_var rfl)) (js := [12]) (by simp [leftAt]) (by simp) (fun j d r' hd hr => ?_) (by rw [List.length_map]; omega)).d a_nil)) rfl rfl rfl) ⟨rfl, rfl⟩) fun M yd ⟨e1, e2⟩ => rg_nil ?_
        · obtain ⟨p, hp, rfl⟩ := map_inv hd
          unfold leftAt at hr
          rw [List.map_map] at hr
          have e := map_get hp hr
          subst e
          obtain ⟨q, hq, rfl⟩ := plan_mem p (List.mem_of_getElem? hp)
          exact ⟨[.int (q : Int)], g_name, e_ix (e_var rfl) (.inl rfl) (e_var rfl) (atI_ints (by omega))⟩
        · subst e1
          subst e2
          exact ⟨hlt, rfl, _, _, _, _, rfl⟩
      · obtain ⟨_, e, _⟩ := hI
        rw [e, zipD_len, List.length_map]
        unfold planD
        rw [List.length_map, List.length_range, Nat.min_self]

inductive R_ticks_of : List PyData → PyData → Prop
  | mk (w r : Int) (bs starts : List Int) (g : Good w r bs starts) : R_ticks_of [roadD w r bs, intsD starts, .tuple (planD w r bs starts)] (.tuple (ticksD w r bs starts))
inductive R_finish_of : List PyData → PyData → Prop
  | mk (w r : Int) (bs starts : List Int) (g : Good w r bs starts) : R_finish_of [roadD w r bs, intsD starts, .tuple (planD w r bs starts)] (.int (finishOf w r bs starts))
inductive R_least_finish : List PyData → PyData → Prop
  | mk (w r : Int) (bs starts : List Int) (g : Good w r bs starts) : R_least_finish [roadD w r bs, intsD starts] (.int (finishOf w r bs starts))
theorem ticksD_cons (w r : Int) (bs starts : List Int) : ticksD w r bs starts = intsD starts :: ((List.range bs.length).map fun i => intsD (ticksAt w r bs starts (i + 1))) := by
  unfold ticksD
  rw [List.range_succ_eq_map, List.map_cons, List.map_map]
  rfl
theorem pe_cg {X : Cx} {k j : Nat} {nm x y z : Str} {R : List PyData → List PyData → Prop} {p pos pos' px py pz pz' tp : Pos} {kk : Nat} {e : Expr} {es : List Expr} {ta : TA} {scope : Scope} (c : CalG X.prog X.w X.K X.mg X.base k nm (spGen R)) (hc : X.calm = true) (hr : Room j X.A) (hk : k + 1 ≤ j) (hg : Gl X nm) (ha : PA X (e :: es) ta)
    (hkind : scope.kind = .function) (huniq : ∀ y ∈ scope.names, scope.names.lookup y.1 = some y.2) (hfree : ∀ y ∈ scope.names, y.2 = .free → X.env.scope.names.lookup y.1 = some .cell ∨ X.env.scope.names.lookup y.1 = some .free)
    (hx : scope.names.lookup x = some .local) (hy : scope.names.lookup y = some .local) (hz : scope.names.lookup z = some .local) (hzd : (z == ("__debug__" : Str)) = false := by decide)
    (hdb : (nm == ("__debug__" : Str)) = false := by decide) (he : starEach (e :: es) X.env = (false, eval e X.env) :: starEach es X.env := by rfl) (hpl : (backTo pos' (starEach es X.env)).any (·.1) = false := by rfl)
    (hs : ∀ x, foldedSetIterable (.Call (.Name nm p) (e :: es) [] pos') X.env x = pure x := by intro _; rfl) :
    PE X (.ListComp (.Name z pz') [⟨.Tuple [.Name x px, .Name y py, .Name z pz] kk tp, .Call (.Name nm p) (e :: es) [] pos', [], 0⟩] scope pos) (Gn.tLcG (spGen R) ta) := by
  obtain ⟨f, fd, ps, F, hm, kp, b⟩ := c.ex
  exact Gn.pe_lcG hc F (hr.mono hk) hg hm kp b ha hkind huniq hfree hx hy hz hzd hdb he hpl hs
abbrev s_ticks_of : Stmt := top 38
abbrev n_ticks_of : List Str := ["road", "starts", "plan", "ticks", "leaves", "after"]
theorem sc_ticks_of : FnScope n_ticks_of ["road", "starts", "plan"] (defScope s_ticks_of) := ⟨rfl, rfl, rfl, by decide +kernel, rfl, by decide +kernel, by decide +kernel⟩
theorem f_ticks_of (G : Gs K mg) (c_stages_of : CalG P w K mg base 2 "stages_of" (spGen R_stages_of)) (D : DefF K mg "ticks_of" s_ticks_of) : Cal P w K mg base 4 "ticks_of" R_ticks_of :=
  cal_of ["road", "starts", "plan"] D (fun _ _ _ _ _ _ us hl => match us, hl with | [_, _, _], _ => rfl) fun f fd Fn => by
    have sc := sc_ticks_of
    refine fn_pure Fn sc (fun ds d h => by cases h <;> rfl) fun cdv A outer s H E hr => ?_
    have hu := hr.units
    refine ⟨_, (pss_one (ps_ret (pe_tup (pa_cons (u_tuple G (pa_cons (pv 1) pa_nil)) (StX.pa_star (pe_cg c_stages_of rfl hr (by decide) (by rfl) (pa_cons (pv 0) (pa_cons (pv 1) (pa_cons (pv 2) pa_nil))) rfl (by decide +kernel) (fun y hy e => absurd e (by clear e; revert y; decide +kernel)) rfl rfl rfl) pa_nil))))), fun ds d h => ?_⟩
    cases h with
    | mk w r bs starts g =>
      refine r_ret (e_tup (ds := ticksD w r bs starts) ((a_cons (c_tup (a_cons (e_var rfl) a_nil) (.inr rfl)) (a_star (xs := (List.range bs.length).map fun i => intsD (ticksAt w r bs starts (i + 1))) (m_lcg (ds := [roadD w r bs, intsD starts, .tuple (planD w r bs starts)]) (.mk w r bs starts g) (a_cons (e_var rfl) (a_cons (e_var rfl) (a_cons (e_var rfl) a_nil)))).d (.inl rfl) a_nil)).is ?_) ?_) rfl rfl
      · rw [ticksD_cons, List.map_cons, List.append_nil]
      · unfold ticksD; have := g.lb.2; simp; omega
abbrev s_finish_of : Stmt := top 39
abbrev n_finish_of : List Str := ["road", "starts", "plan"]
theorem sc_finish_of : FnScope n_finish_of ["road", "starts", "plan"] (defScope s_finish_of) := ⟨rfl, rfl, rfl, by decide +kernel, rfl, by decide +kernel, by decide +kernel⟩
theorem f_finish_of (G : Gs K mg) (c_ticks_of : Cal P w K mg base 4 "ticks_of" R_ticks_of) (D : DefF K mg "finish_of" s_finish_of) : Cal P w K mg base 5 "finish_of" R_finish_of :=
  cal_of ["road", "starts", "plan"] D (fun _ _ _ _ _ _ us hl => match us, hl with | [_, _, _], _ => rfl) fun f fd Fn => by
    have sc := sc_finish_of
    refine fn_pure Fn sc (fun ds d h => by cases h <;> rfl) fun cdv A outer s H E hr => ?_
    have hu := hr.units
    refine ⟨_, (pss_one (ps_ret (u_max G (pa_cons (pe_ix (kx_ix G) (C8.pe_c c_ticks_of hr (by decide) (by rfl) (pa_cons (pv 0) (pa_cons (pv 1) (pa_cons (pv 2) pa_nil)))) (pe_un un_neg pe_int) (fun _ _ => rfl)) pa_nil)))), fun ds d h => ?_⟩
    cases h with
    | mk w r bs starts g =>
      have hl : 0 < (ticksAt w r bs starts bs.length).length := by rw [ticksAt_len]; exact g.ls.1
      refine r_ret (c_maxT (ns := ticksAt w r bs starts bs.length) (m := finishOf w r bs starts) (a_cons (e_ix (e_c (.mk w r bs starts g) (a_cons (e_var rfl) (a_cons (e_var rfl) (a_cons (e_var rfl) a_nil)))) (.inr rfl) (e_neg e_int) (ticksD_last w r bs starts)) a_nil) hl (maxL_mem hl) maxL_le) rfl rfl
abbrev s_least_finish : Stmt := top 46
abbrev n_least_finish : List Str := ["road", "starts"]
theorem sc_least_finish : FnScope n_least_finish ["road", "starts"] (defScope s_least_finish) := ⟨rfl, rfl, rfl, by decide +kernel, rfl, by decide +kernel, by decide +kernel⟩
theorem f_least_finish (G : Gs K mg) (c_rule_plan : Cal P w K mg base 2 "rule_plan" R_rule_plan) (c_finish_of : Cal P w K mg base 5 "finish_of" R_finish_of) (D : DefF K mg "least_finish" s_least_finish) : Cal P w K mg base 6 "least_finish" R_least_finish :=
  cal_of ["road", "starts"] D (fun _ _ _ _ _ _ us hl => match us, hl with | [_, _], _ => rfl) fun f fd Fn => by
    have sc := sc_least_finish
    refine fn_pure Fn sc (fun ds d h => by cases h <;> rfl) fun cdv A outer s H E hr => ?_
    have hu := hr.units
    refine ⟨_, (pss_one (ps_ret (C8.pe_c c_finish_of hr (by decide) (by rfl) (pa_cons (pv 0) (pa_cons (pv 1) (pa_cons (C8.pe_c c_rule_plan hr (by decide) (by rfl) (pa_cons (pv 0) (pa_cons (pv 1) pa_nil))) pa_nil)))))), fun ds d h => ?_⟩
    cases h with
    | mk w r bs starts g =>
      have lb := g.lb.2
      have ls := g.ls.2
      exact r_ret (e_c (.mk w r bs starts g) (a_cons (e_var rfl) (a_cons (e_var rfl) (a_cons (e_c (.mk w r bs starts (by omega) (by omega) g.b0) (a_cons (e_var rfl) (a_cons (e_var rfl) a_nil))) a_nil)))) rfl rfl
end
end K45
-- BD
set_option maxHeartbeats 4000000
namespace K45
open PySem PySem.Spec PyProof.Rows L2
open Evl (Ex ex_rd ex_l ex_t)
/-! ### BadText(index) -/
def spBT (C : Addr) : Sp := fun vs H Q _ => ∃ a v, vs = [.ref a, v] ∧ H a = some (exo a C none) ∧ ∀ dx, H dx = none → dx ≠ a → Q .non (upd (upd H dx (exd dx [(("index" : Str), v)])) a (exo a C (some dx)))
section
variable {P : Program} {w : World} {K : PySem.W.Frag} {mg : Str → Option Value} {base : Heap}
abbrev s_BadText___init__ : Stmt := inClass (top 24) 0
abbrev n_BadText___init__ : List Str := ["self", "index"]
theorem sc_BadText___init__ : FnScope n_BadText___init__ ["self", "index"] (defScope s_BadText___init__) := ⟨rfl, rfl, rfl, by decide +kernel, rfl, by decide +kernel, by decide +kernel⟩
theorem ok_bad {C : Addr} {f : Addr} {fd : FuncData} (T : OexC K C) (no : PySem.W.findIn K (.ref C) "index" = some none) (Fn : Fun K "__init__" "BadText.__init__" s_BadText___init__ f fd) : FnOk P w K mg base CX0 1 f fd ["self", "index"] (spBT C) := by
  have sc := sc_BadText___init__
  refine Fn.ok sc (fun vs H Q E h => ?_) (fun cdv A outer s H vs Q E hr h => ?_)
  · obtain ⟨a, v, rfl, _⟩ := h; rfl
  · obtain ⟨a, v, rfl, ha, q⟩ := h
    exact ⟨_, (pss_one (ps_ost (pv 0) (pv 1))), _, rfl, _, rfl, a, C, rfl, T, no, .inl ⟨ha, fun dx n ne => q dx n ne⟩⟩
/-- the class BadText stands at C -/
structure CalB (P : Program) (w : World) (K : PySem.W.Frag) (mg : Str → Option Value) (base : Heap) (C : Addr) : Prop where
  ex : ∃ fI fd, OexC K C ∧ PySem.W.findIn K (.ref C) "__init__" = some (some (.ref fI)) ∧ PySem.W.typeIn K (.ref fI) = some (.type "function") ∧ FnOk P w K mg base CX0 1 fI fd ["self", "index"] (spBT C) ∧ Binds K fd ["self", "index"] []
  gC : mg "BadText" = some (.ref C)
/-- raise BadText(e) -/
def tBad (C : Addr) (W : WX) (ta : TA) : TS := fun _ σ H => tMkO C (spBT C) [] ta σ H fun cls d H' => W cls d σ H'
theorem ps_bad {X : Cx} {C : Addr} {j : Nat} {W : WX} {e : Expr} {ta : TA} {p pos pos2 : Pos} (c : CalB X.prog X.w X.K X.mg X.base C) (hc : X.calm = true) (hr : Room j X.A) (hj : 2 ≤ j) (tk : Takes X W) (hg : Gl X "BadText") (ha : PA X [e] ta)
    (he : starEach [e] X.env = (false, eval e X.env) :: starEach [] X.env := by rfl) (hpl : (backTo pos (starEach [] X.env)).any (·.1) = false := by rfl) :
    PS X (.Raise (some (.Call (.Name "BadText" p) [e] [] pos)) none pos2) (tBad C W ta) := by
  obtain ⟨fI, fd, T, iC, tI, F1, b⟩ := c.ex
  exact ps_raise hc tk (pmk_oex T iC tI F1 (hr.mono hj) b .nil pass0 hg c.gC ha (by decide) he hpl)
/-- what is wished of an error whose index is iv, from H0 on -/
def FE (C : Addr) (E : XK) (iv : V) (H0 : Hp) : Prop := ∀ d H', Ex H0 H' → H' d = some (.xd [(("index" : Str), iv)]) → E (.ref C) (some d) H'
theorem FE.mono {C : Addr} {E : XK} {iv : V} {H H' : Hp} (h : FE C E iv H) (e : Ex H H') : FE C E iv H' := fun d H2 e2 q => h d H2 (e.trans e2) q
theorem r_bad {F : Fx} {L : List Sl} {ta : TA} {C : Addr} {E : XK} {x : PyData} {iv : V} {Po : Post} (h : EvA F ta L [.d x]) (hF : ∀ H0 B0, F H0 B0 → FE C E iv H0) (hv : ∀ (B : Hp) v, Rp B v x → v = iv) : RunE F (tBad C (fun cls d _ H => E cls d H) ta) L Po := fun H0 B0 B H σ D f g E' n r b c =>
  h H0 B0 B H σ f g E' _ fun vs B1 H1 g1 o1 => by
    obtain ⟨v, rfl, o⟩ := ok1 o1
    obtain rfl := hv B1 v o
    refine ⟨by simp, fun a ha => ⟨a, v, rfl, upd_same, fun dx n ne => ⟨rfl, dx, [(("index" : Str), v)], upd_same, ?_, ?_, ?_⟩⟩⟩
    · rw [upd_ne ne]; exact upd_same
    · rw [upd_ne ne] at n; exact n
    · have dn : H1 dx = none := by rw [upd_ne ne] at n; exact n
      refine hF H0 B0 f dx _ (fun q o e => ?_) upd_same
      have e1 : H1 q = some o := (g.hh.trans g1.hh) q o e
      have n1 : q ≠ dx := fun z => by rw [z, dn] at e1; cases e1
      have n2 : q ≠ a := fun z => by rw [z, ha] at e1; cases e1
      rw [upd_ne n1, del_ne n2, upd_ne n2, upd_ne n1, upd_ne n2]
      exact e1
theorem RunE.go {F : Fx} {t : TS} {L : List Sl} {P : Post} {H0 B0 B H : Hp} {σ : St} {D : Ends} (f : F H0 B0) (g : Grow B0 H0 B H) (E : Env H0 B H σ L) (n : To H0 B0 B P.nx D.nx) (r : ∀ d v B' H', P.rt d → Grow B0 H0 B' H' → Rp B' v d → D.rt v H') (b : To H0 B0 B P.bk D.bk) (c : To H0 B0 B P.ct D.ct) (k : RunE F t L P) : t D σ H := k H0 B0 B H σ D f g E n r b c
/-- a, b = xs where xs is a list of the call's own -/
theorem r_asgL {F : Fx} {te : TE} {L : List Sl} {Po : Post} {tg : TGs} {js : List Nat} {xs es : List PyData} {n : Nat} (h : EvE F te L (.m xs)) (hg : TgsE tg js xs es) (hn : xs.length = n) (k : Po.nx (setAllD L js es)) : RunE F (tAsg te (gLst K n tg)) L Po := fun H0 B0 B H σ D f g0 E nn r b c =>
  h H0 B0 B H σ f g0 E _ fun v B1 H1 g1 o1 => by
    obtain ⟨l, vs, rfl, _, _, hl, a⟩ := o1
    exact ⟨l, vs, rfl, SqL.of hl, (RpAll.len a).trans hn, hg B1 H1 σ vs _ g1.bh a fun ws rws _ => nn _ B1 H1 _ k (g0.trans g1) g1.bb ((E.mono g1).setAll rws)⟩
/-! ### parse_trip -/
/-- what of a text is wished: the error's index, or the trip -/
def spPT (C : Addr) : Sp := fun vs H Q E => ∃ B d, Ex B H ∧ RpAll B vs [d] ∧
  ((tyN d ≠ "str" ∧ kitB (tyN d) "str" = some false ∧ FE C E .non H) ∨
    ∃ x, d = .str x ∧ Tx x ∧ (∀ n, dueN (Txt.split x blank1) = some n → FE C E (.int (n : Nat)) H) ∧ (dueN (Txt.split x blank1) = none → ∀ v B' H', Grow B H B' H' → Rp B' v (okD (Txt.split x blank1)) → Q v H'))
abbrev s_parse_trip : Stmt := top 60
abbrev n_parse_trip : List Str := ["value", "parts", "index", "word", "part", "ticks", "bikes", "middle", "starts"]
theorem sc_parse_trip : FnScope n_parse_trip ["value"] (defScope s_parse_trip) := ⟨rfl, rfl, rfl, by decide +kernel, rfl, by decide +kernel, by decide +kernel⟩
theorem f_parse_trip {C : Addr} (G : Gs K mg) (c_parse_part : Cal P w K mg base 6 "parse_part" R_parse_part) (cB : CalB P w K mg base C) {f : Addr} {fd : FuncData} (Fn : Fun K "parse_trip" "parse_trip" s_parse_trip f fd) : FnOk P w K mg base (L2.CX P w) 7 f fd ["value"] (spPT C) := by
  have sc := sc_parse_trip
  refine Fn.okX sc (fun vs H Q E h => ?_) (fun cdv A outer s H vs Q E hr h => ?_)
  · obtain ⟨B, d, _, ra, _⟩ := h
    exact RpAll.len ra
  have hu := hr.units
  refine ⟨_, (pss_cons (ps_if (pt_not (pt_val (u_isi G (pa_cons (pv 0) (pa_cons (u_tstr G) pa_nil))))) (pss_one (ps_bad cB rfl hr (by decide) (takes_of rfl rfl rfl rfl) rfl (pa_cons pe_non pa_nil))) pss_nil)
      (pss_cons (ps_set (i := 1) sc.nd rfl (Or.inl rfl) (pe_lst pa_nil))
      (pss_cons (ps_for (passes_of rfl) rfl (u_enum G (pa_cons (pe_split (pv 0) pe_str) pa_nil)) (pg_tup (by rfl) (pgs_cons (pg_name (i := 2) sc.nd rfl (Or.inl rfl)) (pgs_cons (pg_name (i := 3) sc.nd rfl (Or.inl rfl)) pgs_nil))) (pss_cons (ps_set (i := 4) sc.nd rfl (Or.inl rfl) (C8.pe_c c_parse_part hr (by decide) (by rfl) (pa_cons (pv 2) (pa_cons (pv 3) pa_nil))))
      (pss_cons (ps_if (pt_cmp (pc_isN (pv 4)) (by rfl)) (pss_one (ps_bad cB rfl hr (by decide) (takes_of rfl rfl rfl rfl) rfl (pa_cons (pv 2) pa_nil))) pss_nil)
      (pss_one (ps_expr (pe_bm PySem.F.plainAttrs_list PySem.F.slot_list_append PySem.F.type_list_append mt_append (pv 1) (pa_cons (pv 4) pa_nil)))))))
      (pss_cons (ps_if (pt_cmpR op_lt (u_len G (pa_cons (pv 1) pa_nil)) (u_gint G.MANY_WORDS) (nomark _)) (pss_one (ps_bad cB rfl hr (by decide) (takes_of rfl rfl rfl rfl) rfl (pa_cons (u_len G (pa_cons (pv 1) pa_nil)) pa_nil))) pss_nil)
      (pss_cons (ps_asg (pv 1) (pg_lst rfl (pgs_cons (pg_name (i := 5) sc.nd rfl (Or.inl rfl)) (pgs_cons (pg_name (i := 6) sc.nd rfl (Or.inl rfl)) (pgs_cons (pg_name (i := 7) sc.nd rfl (Or.inl rfl)) (pgs_cons (pg_name (i := 8) sc.nd rfl (Or.inl rfl)) pgs_nil)))) (by rfl)))
      (pss_one (ps_ret (pe_tup (pa_cons (pe_tup (StX.pa_star (pv 5) (pa_cons (pv 6) pa_nil))) (pa_cons (pv 8) pa_nil)))))))))), ?_⟩
  obtain ⟨B, d, eb, ra, h⟩ := h
  rcases h with ⟨h1, h2, fe⟩ | ⟨x, rfl, hx, fe, q⟩
  · refine (r_guard (F := fun H0 _ => FE C E .non H0) (P := {}) (b := true) ((t_not (t_test (c_isi (a_cons (e_var rfl) (a_cons e_val a_nil)) rfl (b := false) h2))).is (c := true) rfl) (fun _ => r_bad (a_cons e_non a_nil) (fun _ _ h => h) fun B v r => dp_non r) fun h => nomatch h) H B B H (L2.start n_parse_trip vs) _ fe (.rfl' eb) (env_start (N := n_parse_trip) ra) (fun _ _ _ _ z => z.elim) (fun _ _ _ _ z => z.elim) (fun _ _ _ _ z => z.elim) (fun _ _ _ _ z => z.elim)
  · refine RunE.go (F := fun H0 _ => ∀ n, dueN (Txt.split x blank1) = some n → FE C E (.int (n : Nat)) H0) (P := { rt := fun d' => dueN (Txt.split x blank1) = none ∧ d' = okD (Txt.split x blank1) }) fe (.rfl' eb) (env_start (N := n_parse_trip) ra) (fun _ _ _ _ z => z.elim) (fun d' v B' H' e g r => q e.1 v B' H' g (e.2 ▸ r)) (fun _ _ _ _ z => z.elim) (fun _ _ _ _ z => z.elim) ?_
    refine r_guard (b := false) ((t_not (t_test (c_isi (a_cons (e_var rfl) (a_cons e_val a_nil)) rfl (b := true) rfl))).is (c := false) rfl) (fun h => nomatch h) fun _ => ?_
    refine r_seq (r_asgM (m_lst (ds := []) a_nil (by decide)) rfl) ?_
    have hw : ∀ p ∈ Txt.split x blank1, Tx p := fun p hp => hx.part (by decide) hp
    have hps := hx.parts blank1
    have hlx := hx.len
    refine r_seqI (I := fun L' => ∃ s2 s3 s4, L' = [.d (.str x), .m ((List.range (Txt.split x blank1).length).map fun i => partD i ((Txt.split x blank1).getD i ⟨#[]⟩)), s2, s3, s4, .u, .u, .u, .u] ∧ ∀ j < (Txt.split x blank1).length, isNo (partD j ((Txt.split x blank1).getD j ⟨#[]⟩)) = false)
      (r_for (js := [2, 3]) (it_enumU (a_cons (m_split (y := blank1) (e_var rfl) e_str rfl hx.len).d a_nil) (.inl rfl)) (fun i L' => ∃ s2 s3 s4, L' = [.d (.str x), .m ((List.range i).map fun i => partD i ((Txt.split x blank1).getD i ⟨#[]⟩)), s2, s3, s4, .u, .u, .u, .u] ∧ ∀ j < i, isNo (partD j ((Txt.split x blank1).getD j ⟨#[]⟩)) = false) ⟨_, _, _, rfl, fun j hj => absurd hj (Nat.not_lt_zero _)⟩ (fun i d L' hd hI => ?_) (fun L' hI => ?_)) (fun M hM => ?_)
    · obtain ⟨y, hy, rfl⟩ := enum_inv hd
      obtain ⟨wd, hwd, rfl⟩ := map_inv hy
      obtain ⟨s2, s3, s4, rfl, hg⟩ := hI
      have gd := getD_get hwd
      have tx := hw wd (List.mem_of_getElem? hwd)
      have hlt : i < (Txt.split x blank1).length := (List.getElem?_eq_some_iff.mp hwd).1
      refine ⟨[.int (i : Int), .str wd], g_tup (gs_cons g_name (gs_cons g_name gs_nil)), ?_⟩
      refine r_seq (r_asg (e_c (.mk i wd tx) (a_cons (e_var rfl) (a_cons (e_var rfl) a_nil))) rfl rfl) ?_
      refine r_guard (t_test (e_isN (e_var rfl))) (fun h => r_bad (a_cons (e_var rfl) a_nil) (fun H0 _ hf => hf i ?_) fun B v r => dp_int r) fun h => ?_
      · unfold dueN
        rw [badAt_some hlt (by rw [gd]; exact h) hg]
      · refine r_app (d := partD i wd) rfl (e_var rfl) (by simp; omega) ⟨.d (.int (i : Int)), .d (.str wd), .d (partD i wd), ?_, fun j hj => ?_⟩
        · have ee : ((List.range i).map fun i => partD i ((Txt.split x blank1).getD i ⟨#[]⟩)) ++ [partD i wd] = (List.range (i + 1)).map fun i => partD i ((Txt.split x blank1).getD i ⟨#[]⟩) := by
            rw [List.range_succ, List.map_append, ← gd]; rfl
          rw [ee]; rfl
        · by_cases z : j < i
          · exact hg j z
          · have : j = i := by omega
            subst this; rw [gd]; exact h
    · obtain ⟨s2, s3, s4, rfl, hg⟩ := hI
      rw [enumD_len, List.length_map] at hg ⊢
      exact ⟨s2, s3, s4, rfl, hg⟩
    · obtain ⟨s2, s3, s4, rfl, hg⟩ := hM
      generalize Txt.split x blank1 = ws at hg hw hps ⊢
      have le4 : ws.length ≤ 4 := by
        apply Nat.le_of_not_lt
        intro z
        have := hg 4 z
        rw [part4 _ (Nat.le_refl 4)] at this
        cases this
      refine r_guard (t_test (e_cmp (p := fun i j => decide (i < j)) (c_len (xs := (List.range ws.length).map fun i => partD i (ws.getD i ⟨#[]⟩)) (a_cons (e_var rfl) a_nil) (.inl rfl)) e_int)) (fun h => r_bad (iv := .int (ws.length : Nat)) (a_cons (c_len (xs := (List.range ws.length).map fun i => partD i (ws.getD i ⟨#[]⟩)) (a_cons (e_var rfl) a_nil) (.inl rfl)) a_nil) (fun H0 _ hf => hf ws.length ?_) fun B v r => by rw [dp_int r, List.length_map, List.length_range]) fun h => ?_
      · have h4 : ws.length < 4 := by simp at h; omega
        unfold dueN
        rw [badAt_none hg]
        show (if ws.length < 4 then some ws.length else none) = _
        rw [if_pos h4]
      · have h4 : ws.length = 4 := by simp at h; omega
        have e : dueN ws = none := by
          unfold dueN
          rw [badAt_none hg]
          show (if ws.length < 4 then some ws.length else none) = _
          rw [if_neg (by omega)]
        obtain ⟨a, b, c, d, rfl⟩ := four h4
        obtain ⟨tw, tr, et⟩ := tick_some (hg 0 (by simp))
        have p0 : partD 0 a = .tuple [.int tw, .int tr] := by
          show tupO (tickW a) = _
          rw [show tickW a = some [tw, tr] from et]; rfl
        refine r_seq (r_asgL (js := [5, 6, 7, 8]) (es := [partD 0 a, partD 1 b, partD 2 c, partD 3 d]) (e_var rfl) (gs_cons g_name (gs_cons g_name (gs_cons g_name (gs_cons g_name gs_nil)))) rfl rfl) ?_
        rw [p0]
        refine r_ret (e_tup (ds := [.tuple [.int tw, .int tr, partD 1 b], partD 3 d]) (a_cons (e_tup (ds := [.int tw, .int tr, partD 1 b]) (a_star (xs := [.int tw, .int tr]) (e_var rfl) (.inr rfl) (a_cons (e_var rfl) a_nil)) (by simp)) (a_cons (e_var rfl) a_nil)) (by simp)) rfl ⟨e, ?_⟩
        show _ = PyData.tuple [.tuple ((match tickW a with | some t => t | none => []).map PyData.int ++ [tupO (numsW 12 12 b)]), tupO (numsW 10 1000000 d)]
        rw [show tickW a = some [tw, tr] from et]
        rfl
end
end K45
-- BE
set_option maxHeartbeats 4000000
namespace K45
open PySem PySem.Spec PyProof.Rows L2
open Evl (Ex ex_rd ex_l ex_t)
/-! ### a trip -/
abbrev tfs (ls lf le : Addr) : List (Str × V) := [(("states" : Str), .ref ls), (("finishes" : Str), .ref lf), (("standing" : Str), .ref le), (("watching" : Str), .bl false)]
def Holds (B H : Hp) (l : Addr) (xs : List PyData) : Prop := ∃ vs, H l = some (.lst vs) ∧ RpAll B vs xs
/-- the trip of class C at t, its lists at ls, lf, le -/
structure TripS (C : Addr) (B H : Hp) (t ls lf le : Addr) (sts fins eds : List PyData) : Prop where
  ins : ∃ dx, H t = some (.ins C dx (tfs ls lf le))
  st : Holds B H ls sts
  fi : Holds B H lf fins
  ed : Holds B H le eds
  bs : B ls = none
  bf : B lf = none
  be : B le = none
  sf : ls ≠ lf
  se : ls ≠ le
  fe : lf ≠ le
section
variable {B B' H H' : Hp} {C t ls lf le : Addr} {sts fins eds xs : List PyData}
theorem Holds.mono {l : Addr} (h : Holds B H l xs) (b : Ex B B') (e : Ex H H') : Holds B' H' l xs := by
  obtain ⟨vs, h1, h2⟩ := h
  exact ⟨vs, e _ _ h1, dpa_mono b h2⟩
theorem Holds.none (h : Holds B H ls xs) (g : Grow B H B' H') (n : B ls = none) : B' ls = none := by
  obtain ⟨vs, h1, _⟩ := h
  exact g.nw _ _ h1 n
theorem TripS.mono (T : TripS C B H t ls lf le sts fins eds) (g : Grow B H B' H') : TripS C B' H' t ls lf le sts fins eds where
  ins := let ⟨dx, e⟩ := T.ins; ⟨dx, g.hh _ _ e⟩
  st := T.st.mono g.bb g.hh
  fi := T.fi.mono g.bb g.hh
  ed := T.ed.mono g.bb g.hh
  bs := T.st.none g T.bs
  bf := T.fi.none g T.bf
  be := T.ed.none g T.be
  sf := T.sf
  se := T.se
  fe := T.fe
end
/-- what the class must have -/
structure TripC (K : PySem.W.Frag) (C : Addr) : Prop where
  cls : Cls K C
  s : NoAttr K C "states"
  f : NoAttr K C "finishes"
  e : NoAttr K C "standing"
  w : NoAttr K C "watching"
section
variable {K : PySem.W.Frag} {F : Fx} {L : List Sl} {to te : TE} {tr : TA} {C t ls lf le l : Addr} {sts fins eds xs : List PyData}
theorem e_fld {f : Str} {v : V} (cc : Cls K C) (n : NoAttr K C f) (hF : ∀ H0 B0, F H0 B0 → TripS C B0 H0 t ls lf le sts fins eds) (ho : EvE F to L (.v (.ref t))) (hl : (tfs ls lf le).lookup f = some v) : EvE F (tFld K to f) L (.v v) := fun H0 B0 B H σ f0 g E Q q =>
  ho H0 B0 B H σ f0 g E _ fun x B1 H1 g1 o1 => by
    obtain ⟨dx, e⟩ := (hF H0 B0 f0).ins
    exact ⟨t, C, dx, _, v, o1, (g.trans g1).hh _ _ e, cc, n, hl, q _ B1 H1 g1 rfl⟩
theorem e_tix {i : Int} {d : PyData} {tb : TE} (hF : ∀ H0 B0, F H0 B0 → Holds B0 H0 l xs) (ho : EvE F to L (.v (.ref l))) (hb : EvE F tb L (.d (.int i))) (hi : atI xs i = some d) : EvE F (tOp (rIx K) to tb) L (.d d) := fun H0 B0 B H σ f0 g E Q q =>
  ho H0 B0 B H σ f0 g E _ fun x B1 H1 g1 o1 => hb H0 B0 B1 H1 σ f0 (g.trans g1) (E.mono g1) _ fun y B2 H2 g2 o2 => by
    obtain rfl : x = .ref l := o1
    obtain ⟨vs, hv, ra⟩ := (hF H0 B0 f0).mono ((g.trans g1).trans g2).bb ((g.trans g1).trans g2).hh
    obtain ⟨z, hz, rz⟩ := atI_rp ra hi
    exact .inl ⟨l, vs, i, z, rfl, dp_int o2, SqL.of hv, hz, q _ B2 H2 (g1.trans g2) rz⟩
theorem c_tlen (hF : ∀ H0 B0, F H0 B0 → Holds B0 H0 l xs) (h : EvA F tr L [.v (.ref l)]) : EvE F (tCB (rLenU K) tr) L (.d (.int xs.length)) := fun H0 B0 B H σ f0 g E Q q =>
  h H0 B0 B H σ f0 g E _ fun vs B1 H1 g1 o1 => by
    obtain ⟨x, rfl, o⟩ := ok1 o1
    obtain rfl : x = .ref l := o
    obtain ⟨ws, hv, ra⟩ := (hF H0 B0 f0).mono (g.trans g1).bb (g.trans g1).hh
    have := q (.int ws.length) B1 H1 g1 (by rw [RpAll.len ra]; exact .int _)
    exact .inl ⟨l, ws, rfl, .inl (SqL.of hv), this⟩
theorem c_ttup (hF : ∀ H0 B0, F H0 B0 → Holds B0 H0 l xs) (h : EvA F tr L [.v (.ref l)]) : EvE F (tCB (rTupOf K) tr) L (.d (.tuple xs)) := fun H0 B0 B H σ f0 g E Q q =>
  h H0 B0 B H σ f0 g E _ fun vs B1 H1 g1 o1 => by
    obtain ⟨x, rfl, o⟩ := ok1 o1
    obtain rfl : x = .ref l := o
    obtain ⟨ws, hv, ra⟩ := (hF H0 B0 f0).mono (g.trans g1).bb (g.trans g1).hh
    exact ⟨l, ws, rfl, .inl ⟨SqL.of hv, fun p hp => q _ _ _ (g1.trans (Grow.put g1.bh hp)) (.tup upd_same (dpa_mono (Ex.new (Evl.fresh_back g1.bh hp)) ra))⟩⟩
theorem e_fbl {f : Str} {b : Bool} (h : EvE F (tFld K to f) L (.v (.bl b))) : EvE F (tFld K to f) L (.d (.bool b)) := fun H0 B0 B H σ f0 g E Q q =>
  h H0 B0 B H σ f0 g E Q fun v B1 H1 g1 o1 => q v B1 H1 g1 (by rw [show v = .bl b from o1]; exact .bl b)
end
/-! ### methods that leave the trip as it is -/
abbrev RT := List PyData → List PyData → List PyData → List PyData → PyData → Prop
def spT (C : Addr) (R : RT) : Sp := fun vs H Q _ => ∃ B t ls lf le sts fins eds ws ds d, Ex B H ∧ TripS C B H t ls lf le sts fins eds ∧ vs = .ref t :: ws ∧ RpAll B ws ds ∧ R sts fins eds ds d ∧ ∀ v B' H', Grow B H B' H' → Rp B' v d → Q v H'
def startT (N : List Str) (t : Addr) (ds : List PyData) : List Sl := Sl.v (.ref t) :: (ds.map Sl.d ++ List.replicate (N.length - (ds.length + 1)) .u)
theorem okall_get {H0 B H : Hp} : ∀ {vs : List V} {ss : List Sl} {i : Nat} {s : Sl}, OkAll H0 B H vs ss → ss[i]? = some s → ∃ v, vs[i]? = some v ∧ Ok H0 B H v s
  | _, _, _, _, .nil, e => by simp at e
  | _, _, 0, _, .cons a _, e => by simp at e; subst e; exact ⟨_, rfl, a⟩
  | _, _, i + 1, _, .cons _ r, e => by
    obtain ⟨v, h1, h2⟩ := okall_get (i := i) r (by simpa using e)
    exact ⟨v, by simpa using h1, h2⟩
theorem env_startS {H0 H B : Hp} {N : List Str} {vs : List V} {ss : List Sl} (r : OkAll H0 B H vs ss) (hm : ∀ s ∈ ss, isM s = false) : Env H0 B H (L2.start N vs) (ss ++ List.replicate (N.length - ss.length) .u) := by
  have ln : vs.length = ss.length := Paired.length r
  have lm : (vs.map some).length = vs.length := List.length_map _
  have at_ : ∀ (i : Nat) (s : Sl), (ss ++ List.replicate (N.length - ss.length) Sl.u)[i]? = some s → (s = .u ∨ (s ∈ ss ∧ ∃ v, (L2.start N vs)[i]? = some (some v) ∧ Ok H0 B H v s)) := fun i s e => by
    by_cases hi : i < ss.length
    · rw [List.getElem?_append_left hi] at e
      obtain ⟨v, hv, o⟩ := okall_get r e
      refine .inr ⟨List.mem_of_getElem? e, v, ?_, o⟩
      unfold L2.start
      rw [List.getElem?_append_left (by rw [lm, ln]; exact hi), List.getElem?_map, hv]; rfl
    · rw [List.getElem?_append_right (by omega), List.getElem?_replicate] at e
      split at e
      · cases e; exact .inl rfl
      · cases e
  refine ⟨by unfold L2.start; simp [ln], fun i s e => (at_ i s e).elim .inl fun h => .inr h.2, fun i j s t l _ e1 m1 => ?_⟩
  exfalso
  rcases at_ i s e1 with h | ⟨h, _⟩
  · subst h; cases m1
  · rw [hm s h] at m1; cases m1
theorem okall_d {H0 B H : Hp} {vs : List V} {ds : List PyData} (r : RpAll B vs ds) : OkAll H0 B H vs (ds.map Sl.d) := OkAll.of_rp r
theorem env_startT {H0 H B : Hp} {N : List Str} {t : Addr} {vs : List V} {ds : List PyData} (r : RpAll B vs ds) : Env H0 B H (L2.start N (.ref t :: vs)) (startT N t ds) := by
  have h := env_startS (H0 := H0) (H := H) (N := N) (vs := .ref t :: vs) (ss := .v (.ref t) :: ds.map Sl.d) (.cons rfl (OkAll.of_rp r)) (fun s hs => by
    rcases List.mem_cons.mp hs with h | h
    · subst h; rfl
    · obtain ⟨d, _, rfl⟩ := List.mem_map.mp h; rfl)
  have e : (Sl.v (.ref t) :: ds.map Sl.d).length = ds.length + 1 := by simp
  rw [e] at h
  exact h
abbrev FT (C t ls lf le : Addr) (sts fins eds : List PyData) : Fx := fun H0 B0 => TripS C B0 H0 t ls lf le sts fins eds
section
variable {P : Program} {w : World} {K : PySem.W.Frag} {mg : Str → Option Value} {base : Heap} {C : Addr}
theorem fnT {x qual : Str} {st : Stmt} {f : Addr} {fd : FuncData} {N ps : List Str} {k : Nat} {R : RT} (Fn : Fun K x qual st f fd) (S : FnScope N ps (defScope st)) (len : ∀ sts fins eds ds d, R sts fins eds ds d → ds.length + 1 = ps.length)
    (body : ∀ (cdv : Value) (A : Around) (outer : List PySem.Env) (s : Shared) (H : Hp) (E : XK), Room k (A.deeper (envOfC qual (defScope st) s.heap.objs.size f cdv)) →
      ∃ t, PSs (cxOf CX0 P w K mg base N qual (defScope st) f cdv A outer s H E).nox (defBody st) t ∧ ∀ tr ls lf le sts fins eds ds d, R sts fins eds ds d → RunE (FT C tr ls lf le sts fins eds) t (startT N tr ds) { nx := fun _ => d = .none, rt := fun d' => d' = d }) : FnOk P w K mg base CX0 (k + 1) f fd ps (spT C R) := by
  refine Fn.ok S (fun vs H Q E h => ?_) (fun cdv A outer s H vs Q E hr h => ?_)
  · obtain ⟨B, t, ls, lf, le, sts, fins, eds, ws, ds, d, _, _, rfl, ra, hR, _⟩ := h
    rw [List.length_cons, RpAll.len ra]; exact len _ _ _ _ _ hR
  · obtain ⟨B, t, ls, lf, le, sts, fins, eds, ws, ds, d, eb, T, rfl, ra, hR, q⟩ := h
    obtain ⟨tt, p, run⟩ := body cdv A outer s H E hr
    refine ⟨tt, p, run t ls lf le sts fins eds ds d hR H B B H _ _ T (.rfl' eb) (env_startT ra) (fun L' B' H' σ' e g _ _ => ?_) (fun d' v B' H' e g r => ?_) (fun _ _ _ _ z => z.elim) (fun _ _ _ _ z => z.elim)⟩
    · have e : d = .none := e
      subst e
      exact q _ B' H' g .non
    · have e : d' = d := e
      subst e
      exact q _ B' H' g r
/-- the class at C has the method m, and it keeps sp -/
structure CalM (P : Program) (w : World) (K : PySem.W.Frag) (mg : Str → Option Value) (base : Heap) (C : Addr) (CX : CXT) (k : Nat) (m : Str) (sp : Sp) : Prop where
  ex : ∃ f fd ps, FnOk P w K mg base CX k f fd ps sp ∧ Meth K C m f ∧ Binds K fd ps []
/-- the method m of the class at C is the def st of the text -/
def DefM (K : PySem.W.Frag) (C : Addr) (m qual : Str) (st : Stmt) : Prop := ∃ f fd, Fun K m qual st f fd ∧ Meth K C m f
abbrev BndQ (x qual : Str) (st : Stmt) (ps : List Str) : Prop := ∀ (kV doc pm : Value) (an : Option Addr) (cdv ct : Value) (us : List Value), us.length = ps.length → bindArgs (PySem.W.fnOf x qual (defArgs st) (defBody st) (defScope st) .none kV doc pm an cdv ct) ⟨us, []⟩ = pure (ps.zip us)
theorem calM_of {CX : CXT} {m qual : Str} {st : Stmt} {k : Nat} {sp : Sp} (ps : List Str) (D : DefM K C m qual st) (b : BndQ m qual st ps) (h : ∀ f fd, Fun K m qual st f fd → FnOk P w K mg base CX k f fd ps sp) : CalM P w K mg base C CX k m sp := by
  obtain ⟨f, fd, Fn, hm⟩ := D
  exact ⟨f, fd, ps, h f fd Fn, hm, Fn.binds b⟩
end
section
variable {X : Cx} {C : Addr} {CX : CXT} {k j : Nat} {m : Str} {sp : Sp} {E : XK} {apos pos : Pos} {e o : Expr} {es : List Expr} {ta : TE} {t : TA} {pl : Sem Bool}
theorem pe_cm (c : CalM X.prog X.w X.K X.mg X.base C CX k m sp) (cc : Cls X.K C) (hx : Passes CX X E) (hr : Room j X.A) (hk : k ≤ j) (he : PE X o ta) (ha : PA X (e :: es) t)
    (hst : starEach (e :: es) X.env = (false, eval e X.env) :: starEach es X.env := by rfl) (hpl : (backTo pos (starEach es X.env)).any (·.1) = false := by rfl)
    (ht : eval (.Call (.Attribute o m apos) (e :: es) [] pos) X.env = (do
      let ov ← eval o X.env
      standAt apos.atName
      let (f, first) ← holding [ov] (getMethod ov m pl)
      callWith pos f first (backTo pos (starEach (e :: es) X.env)) (backToKw pos (keywordEach [] X.env))) := by rfl) :
    PE X (.Call (.Attribute o m apos) (e :: es) [] pos) (tMeth C m sp [] E ta t) := by
  obtain ⟨f, fd, ps, F1, hm, b⟩ := c.ex
  exact pe_meth (pl := pl) he cc hm F1 (hr.mono hk) b .nil hx ha hst hpl ht
theorem pe_cm0 (c : CalM X.prog X.w X.K X.mg X.base C CX k m sp) (cc : Cls X.K C) (hx : Passes CX X E) (hr : Room j X.A) (hk : k ≤ j) (he : PE X o ta)
    (ht : eval (.Call (.Attribute o m apos) [] [] pos) X.env = (do
      let ov ← eval o X.env
      standAt apos.atName
      let (f, first) ← holding [ov] (getMethod ov m pl)
      callWith pos f first (backTo pos (starEach [] X.env)) (backToKw pos (keywordEach [] X.env))) := by rfl) :
    PE X (.Call (.Attribute o m apos) [] [] pos) (tMeth C m sp [] E ta tNil) := by
  obtain ⟨f, fd, ps, F1, hm, b⟩ := c.ex
  exact pe_meth0 (pl := pl) he cc hm F1 (hr.mono hk) b .nil hx ht
end
section
variable {F : Fx} {L : List Sl} {to : TE} {tr : TA} {C t ls lf le : Addr} {sts fins eds : List PyData}
/-- t.m(..), the trip left as it is -/
theorem e_meth {R : RT} {m : Str} {E : XK} {ds : List PyData} {d : PyData} (hF : ∀ H0 B0, F H0 B0 → TripS C B0 H0 t ls lf le sts fins eds) (hm : (tfs ls lf le).lookup m = none) (ho : EvE F to L (.v (.ref t))) (ha : EvA F tr L (ds.map Sl.d)) (hR : R sts fins eds ds d) : EvE F (tMeth C m (spT C R) [] E to tr) L (.d d) := fun H0 B0 B H σ f0 g E0 Q q =>
  ho H0 B0 B H σ f0 g E0 _ fun x B1 H1 g1 o1 => by
    obtain rfl : x = .ref t := o1
    obtain ⟨dx, e⟩ := (hF H0 B0 f0).ins
    refine ⟨t, dx, _, rfl, (g.trans g1).hh _ _ e, hm, ha H0 B0 B1 H1 σ f0 (g.trans g1) (E0.mono g1) _ fun ws B2 H2 g2 o2 => ?_⟩
    rw [List.append_nil]
    exact ⟨B2, t, ls, lf, le, sts, fins, eds, ws, ds, d, g2.bh, (hF H0 B0 f0).mono ((g.trans g1).trans g2), rfl, OkAll.rp o2, hR, fun v B3 H3 g3 r => q v B3 H3 ((g1.trans g2).trans g3) r⟩
end
section
variable {P : Program} {w : World} {K : PySem.W.Frag} {mg : Str → Option Value} {base : Heap} {C : Addr}

theorem atI_lastD (xs : List PyData) (d : PyData) (h : xs.getLast? = some d) : atI xs (-1) = some d := by
  obtain ⟨ys, rfl⟩ := List.getLast?_eq_some_iff.mp h
  exact atI_last _ _
theorem cutD_first (xs : List PyData) : cutD xs none (some 0) = [] := by
  unfold cutD
  have e : HT.sIx xs.length xs.length (some 0) = 0 := by unfold HT.sIx; simp
  rw [e]; simp
theorem cutD_rest {xs : List PyData} (h : 1 ≤ xs.length) : cutD xs (some 1) none = xs.drop 1 := by
  unfold cutD
  have e : HT.sIx xs.length 0 (some 1) = 1 := by unfold HT.sIx; simp; omega
  have e2 : HT.sIx xs.length xs.length none = xs.length := by unfold HT.sIx; simp
  rw [e, e2]
  exact List.take_of_length_le (by simp)
inductive R_road : RT
  | mk (sts fins eds : List PyData) (r s : PyData) (h : sts.getLast? = some (.tuple [r, s])) : R_road sts fins eds [] r
inductive R_starts : RT
  | mk (sts fins eds : List PyData) (r s : PyData) (h : sts.getLast? = some (.tuple [r, s])) : R_starts sts fins eds [] s
inductive R_finish : RT
  | mk (sts fins eds : List PyData) (r : PyData) (h : fins.getLast? = some r) : R_finish sts fins eds [] r
inductive R_len : RT
  | mk (sts fins eds : List PyData) : R_len sts fins eds [] (.int eds.length)
inductive R_idle : RT
  | mk (sts fins eds : List PyData) : R_idle sts fins eds [] .none
inductive R_accept : RT
  | mk (sts fins eds : List PyData) (x : PyData) : R_accept sts fins eds [x] .none
inductive R_edits : RT
  | mk (sts fins eds : List PyData) : R_edits sts fins eds [] (.tuple eds)
inductive R_key : RT
  | mk (sts fins eds : List PyData) (r : PyData) (ss : List Int) (h : sts.getLast? = some (.tuple [r, intsD ss])) : R_key sts fins eds [] (.tuple [r, .list ((sortI ss).map PyData.int)])
inductive R_at : RT
  | no (sts fins eds : List PyData) (d : PyData) (h : sts.getLast? = some d) : R_at sts fins eds [.none] d
  | mk (sts fins eds : List PyData) (i : Nat) (d : PyData) (hi : i ≤ eds.length) (h : sts[i]? = some d) : R_at sts fins eds [.int (i : Int)] d
inductive R_is_within : List PyData → PyData → Prop
  | mk (i lo hi : Int) : R_is_within [.int i, .int lo, .int hi] (.bool (decide (lo ≤ i) && decide (i ≤ hi)))
inductive R_with_person : List PyData → PyData → Prop
  | mk (ss : List Int) (i : Int) (h : ss.length < 10) (h0 : 0 ≤ i) (h1 : i ≤ 1000000) : R_with_person [intsD ss, .int i] (intsD (ss ++ [i]))
inductive R_without_person : List PyData → PyData → Prop
  | mk (ss : List Int) (h : 2 ≤ ss.length) (h2 : ss.length ≤ 10) : R_without_person [intsD ss, .int 0] (intsD (ss.drop 1))
abbrev s_Trip_road : Stmt := inClass (top 69) 3
abbrev n_Trip_road : List Str := ["self"]
theorem sc_Trip_road : FnScope n_Trip_road ["self"] (defScope s_Trip_road) := ⟨rfl, rfl, rfl, by decide +kernel, rfl, by decide +kernel, by decide +kernel⟩
theorem f_Trip_road (G : Gs K mg) (tc : TripC K C)   {f : Addr} {fd : FuncData} (Fn : Fun K "road" "Trip.road" s_Trip_road f fd) : FnOk P w K mg base CX0 1 f fd ["self"] (spT C R_road) ∧ Binds K fd ["self"] [] := by
    refine ⟨?_, Fn.binds (fun _ _ _ _ _ _ us hl => match us, hl with | [_], _ => rfl)⟩
    have sc := sc_Trip_road
    refine fnT Fn sc (fun sts fins eds ds d h => by cases h <;> rfl) fun cdv A outer s H E hr => ?_
    have hu := hr.units
    refine ⟨_, (pss_one (ps_ret (pe_ix (kx_ix G) (pe_ix (kx_ix G) (pe_fld (pv 0) rfl) (pe_un un_neg pe_int) (fun _ _ => rfl)) pe_int (fun _ _ => rfl)))), fun tr ls lf le sts fins eds ds d h => ?_⟩
    cases h with
    | mk _ _ _ _ _ h => exact r_ret (e_ix (xs := [_, _]) (e_tix (fun _ _ h => h.st) (e_fld tc.cls tc.s (fun _ _ h => h) (e_var rfl) rfl) (e_neg e_int) (atI_lastD _ _ h)) (.inr rfl) e_int rfl) rfl rfl
abbrev s_Trip_starts : Stmt := inClass (top 69) 4
abbrev n_Trip_starts : List Str := ["self"]
theorem sc_Trip_starts : FnScope n_Trip_starts ["self"] (defScope s_Trip_starts) := ⟨rfl, rfl, rfl, by decide +kernel, rfl, by decide +kernel, by decide +kernel⟩
theorem f_Trip_starts (G : Gs K mg) (tc : TripC K C)   {f : Addr} {fd : FuncData} (Fn : Fun K "starts" "Trip.starts" s_Trip_starts f fd) : FnOk P w K mg base CX0 1 f fd ["self"] (spT C R_starts) ∧ Binds K fd ["self"] [] := by
    refine ⟨?_, Fn.binds (fun _ _ _ _ _ _ us hl => match us, hl with | [_], _ => rfl)⟩
    have sc := sc_Trip_starts
    refine fnT Fn sc (fun sts fins eds ds d h => by cases h <;> rfl) fun cdv A outer s H E hr => ?_
    have hu := hr.units
    refine ⟨_, (pss_one (ps_ret (pe_ix (kx_ix G) (pe_ix (kx_ix G) (pe_fld (pv 0) rfl) (pe_un un_neg pe_int) (fun _ _ => rfl)) pe_int (fun _ _ => rfl)))), fun tr ls lf le sts fins eds ds d h => ?_⟩
    cases h with
    | mk _ _ _ _ _ h => exact r_ret (e_ix (xs := [_, _]) (e_tix (fun _ _ h => h.st) (e_fld tc.cls tc.s (fun _ _ h => h) (e_var rfl) rfl) (e_neg e_int) (atI_lastD _ _ h)) (.inr rfl) e_int rfl) rfl rfl
abbrev s_Trip_finish : Stmt := inClass (top 69) 5
abbrev n_Trip_finish : List Str := ["self"]
theorem sc_Trip_finish : FnScope n_Trip_finish ["self"] (defScope s_Trip_finish) := ⟨rfl, rfl, rfl, by decide +kernel, rfl, by decide +kernel, by decide +kernel⟩
theorem f_Trip_finish (G : Gs K mg) (tc : TripC K C)   {f : Addr} {fd : FuncData} (Fn : Fun K "finish" "Trip.finish" s_Trip_finish f fd) : FnOk P w K mg base CX0 1 f fd ["self"] (spT C R_finish) ∧ Binds K fd ["self"] [] := by
    refine ⟨?_, Fn.binds (fun _ _ _ _ _ _ us hl => match us, hl with | [_], _ => rfl)⟩
    have sc := sc_Trip_finish
    refine fnT Fn sc (fun sts fins eds ds d h => by cases h <;> rfl) fun cdv A outer s H E hr => ?_
    have hu := hr.units
    refine ⟨_, (pss_one (ps_ret (pe_ix (kx_ix G) (pe_fld (pv 0) rfl) (pe_un un_neg pe_int) (fun _ _ => rfl)))), fun tr ls lf le sts fins eds ds d h => ?_⟩
    cases h with
    | mk _ _ _ _ h => exact r_ret (e_tix (fun _ _ h => h.fi) (e_fld tc.cls tc.f (fun _ _ h => h) (e_var rfl) rfl) (e_neg e_int) (atI_lastD _ _ h)) rfl rfl
abbrev s_Trip___len__ : Stmt := inClass (top 69) 8
abbrev n_Trip___len__ : List Str := ["self"]
theorem sc_Trip___len__ : FnScope n_Trip___len__ ["self"] (defScope s_Trip___len__) := ⟨rfl, rfl, rfl, by decide +kernel, rfl, by decide +kernel, by decide +kernel⟩
theorem f_Trip___len__ (G : Gs K mg) (tc : TripC K C)   (D : DefM K C "__len__" "Trip.__len__" s_Trip___len__) : CalM P w K mg base C CX0 1 "__len__" (spT C R_len) :=
  calM_of ["self"] D (fun _ _ _ _ _ _ us hl => match us, hl with | [_], _ => rfl) fun f fd Fn => by
    have sc := sc_Trip___len__
    refine fnT Fn sc (fun sts fins eds ds d h => by cases h <;> rfl) fun cdv A outer s H E hr => ?_
    have hu := hr.units
    refine ⟨_, (pss_one (ps_ret (u_len G (pa_cons (pe_fld (pv 0) rfl) pa_nil)))), fun tr ls lf le sts fins eds ds d h => ?_⟩
    cases h with
    | mk => exact r_ret (c_tlen (fun _ _ h => h.ed) (a_cons (e_fld tc.cls tc.e (fun _ _ h => h) (e_var rfl) rfl) a_nil)) rfl rfl
abbrev s_Trip_require_idle : Stmt := inClass (top 69) 11
abbrev n_Trip_require_idle : List Str := ["self"]
theorem sc_Trip_require_idle : FnScope n_Trip_require_idle ["self"] (defScope s_Trip_require_idle) := ⟨rfl, rfl, rfl, by decide +kernel, rfl, by decide +kernel, by decide +kernel⟩
theorem f_Trip_require_idle (G : Gs K mg) (tc : TripC K C)   (D : DefM K C "require_idle" "Trip.require_idle" s_Trip_require_idle) : CalM P w K mg base C CX0 1 "require_idle" (spT C R_idle) :=
  calM_of ["self"] D (fun _ _ _ _ _ _ us hl => match us, hl with | [_], _ => rfl) fun f fd Fn => by
    have sc := sc_Trip_require_idle
    refine fnT Fn sc (fun sts fins eds ds d h => by cases h <;> rfl) fun cdv A outer s H E hr => ?_
    have hu := hr.units
    refine ⟨_, (pss_one (ps_if (pt_val (pe_fld (pv 0) rfl)) (pss_one ps_dead) pss_nil)), fun tr ls lf le sts fins eds ds d h => ?_⟩
    cases h with
    | mk => exact r_if (b := false) (t_test (e_fbl (e_fld tc.cls tc.w (fun _ _ h => h) (e_var rfl) rfl))) (fun h => nomatch h) fun _ => r_next rfl
abbrev s_Trip_accept : Stmt := inClass (top 69) 7
abbrev n_Trip_accept : List Str := ["self", "tick"]
theorem sc_Trip_accept : FnScope n_Trip_accept ["self", "tick"] (defScope s_Trip_accept) := ⟨rfl, rfl, rfl, by decide +kernel, rfl, by decide +kernel, by decide +kernel⟩
theorem f_Trip_accept (G : Gs K mg) (tc : TripC K C)   (D : DefM K C "accept" "Trip.accept" s_Trip_accept) : CalM P w K mg base C CX0 1 "accept" (spT C R_accept) :=
  calM_of ["self", "tick"] D (fun _ _ _ _ _ _ us hl => match us, hl with | [_, _], _ => rfl) fun f fd Fn => by
    have sc := sc_Trip_accept
    refine fnT Fn sc (fun sts fins eds ds d h => by cases h <;> rfl) fun cdv A outer s H E hr => ?_
    have hu := hr.units
    refine ⟨_, (pss_one ps_pass), fun tr ls lf le sts fins eds ds d h => ?_⟩
    cases h with
    | mk => exact r_next rfl
abbrev s_Trip_edits : Stmt := inClass (top 69) 25
abbrev n_Trip_edits : List Str := ["self"]
theorem sc_Trip_edits : FnScope n_Trip_edits ["self"] (defScope s_Trip_edits) := ⟨rfl, rfl, rfl, by decide +kernel, rfl, by decide +kernel, by decide +kernel⟩
theorem f_Trip_edits (G : Gs K mg) (tc : TripC K C)   (D : DefM K C "edits" "Trip.edits" s_Trip_edits) : CalM P w K mg base C CX0 1 "edits" (spT C R_edits) :=
  calM_of ["self"] D (fun _ _ _ _ _ _ us hl => match us, hl with | [_], _ => rfl) fun f fd Fn => by
    have sc := sc_Trip_edits
    refine fnT Fn sc (fun sts fins eds ds d h => by cases h <;> rfl) fun cdv A outer s H E hr => ?_
    have hu := hr.units
    refine ⟨_, (pss_one (ps_ret (u_tuple G (pa_cons (pe_fld (pv 0) rfl) pa_nil)))), fun tr ls lf le sts fins eds ds d h => ?_⟩
    cases h with
    | mk => exact r_ret (c_ttup (fun _ _ h => h.ed) (a_cons (e_fld tc.cls tc.e (fun _ _ h => h) (e_var rfl) rfl) a_nil)) rfl rfl
abbrev s_Trip_own_key : Stmt := inClass (top 69) 6
abbrev n_Trip_own_key : List Str := ["self", "road", "starts"]
theorem sc_Trip_own_key : FnScope n_Trip_own_key ["self"] (defScope s_Trip_own_key) := ⟨rfl, rfl, rfl, by decide +kernel, rfl, by decide +kernel, by decide +kernel⟩
theorem f_Trip_own_key (G : Gs K mg) (tc : TripC K C)   (D : DefM K C "own_key" "Trip.own_key" s_Trip_own_key) : CalM P w K mg base C CX0 1 "own_key" (spT C R_key) :=
  calM_of ["self"] D (fun _ _ _ _ _ _ us hl => match us, hl with | [_], _ => rfl) fun f fd Fn => by
    have sc := sc_Trip_own_key
    refine fnT Fn sc (fun sts fins eds ds d h => by cases h <;> rfl) fun cdv A outer s H E hr => ?_
    have hu := hr.units
    refine ⟨_, (pss_cons (ps_asg (pe_ix (kx_ix G) (pe_fld (pv 0) rfl) (pe_un un_neg pe_int) (fun _ _ => rfl)) (pg_tup (by rfl) (pgs_cons (pg_name (i := 1) sc.nd rfl (Or.inl rfl)) (pgs_cons (pg_name (i := 2) sc.nd rfl (Or.inl rfl)) pgs_nil))))
      (pss_one (ps_ret (pe_tup (pa_cons (pv 1) (pa_cons (u_sorted G (pa_cons (pv 2) pa_nil)) pa_nil)))))), fun tr ls lf le sts fins eds ds d h => ?_⟩
    cases h with
    | mk _ _ _ r ss h =>
      refine r_seq (r_asgT (js := [1, 2]) (e_tix (fun _ _ h => h.st) (e_fld tc.cls tc.s (fun _ _ h => h) (e_var rfl) rfl) (e_neg e_int) (atI_lastD _ _ h)) (g_tup (gs_cons g_name (gs_cons g_name gs_nil))) rfl) ?_
      exact r_ret (e_tup (ds := [r, .list ((sortI ss).map PyData.int)]) (a_cons (e_var rfl) (a_cons (m_sortU (ns := ss) (a_cons (e_var rfl) a_nil) (.inr rfl) (fun ms h1 h2 => sortI_one h1 h2)).d a_nil)) (by simp)) rfl rfl
abbrev s_is_within : Stmt := top 62
abbrev n_is_within : List Str := ["value", "low", "high"]
theorem sc_is_within : FnScope n_is_within ["value", "low", "high"] (defScope s_is_within) := ⟨rfl, rfl, rfl, by decide +kernel, rfl, by decide +kernel, by decide +kernel⟩
theorem f_is_within (G : Gs K mg)  (D : DefF K mg "is_within" s_is_within) : Cal P w K mg base 1 "is_within" R_is_within :=
  cal_of ["value", "low", "high"] D (fun _ _ _ _ _ _ us hl => match us, hl with | [_, _, _], _ => rfl) fun f fd Fn => by
    have sc := sc_is_within
    refine fn_pure Fn sc (fun ds d h => by cases h <;> rfl) fun cdv A outer s H E hr => ?_
    have hu := hr.units
    refine ⟨_, (pss_one (ps_ret (pe_and (u_isi G (pa_cons (pv 0) (pa_cons (u_tint G) pa_nil))) (pe_and (pe_not (u_isi G (pa_cons (pv 0) (pa_cons (u_tbool G) pa_nil)))) (pe_one (pe_chain op_le op_le (pv 1) (pv 0) (pv 2))))))), fun ds d h => ?_⟩
    cases h with
    | mk i lo hi =>
      refine r_ret (e_andV (c_isi (a_cons (e_var rfl) (a_cons e_val a_nil)) rfl (b := true) rfl) fun _ => e_andV (e_notV (c_isi (a_cons (e_var rfl) (a_cons e_val a_nil)) rfl (b := false) rfl)) fun _ => e_chain (e_var rfl) (e_var rfl) (e_var rfl)) rfl ?_
      rfl
abbrev s_with_person : Stmt := top 63
abbrev n_with_person : List Str := ["starts", "start"]
theorem sc_with_person : FnScope n_with_person ["starts", "start"] (defScope s_with_person) := ⟨rfl, rfl, rfl, by decide +kernel, rfl, by decide +kernel, by decide +kernel⟩
theorem f_with_person (G : Gs K mg) (c_is_within : Cal P w K mg base 1 "is_within" R_is_within) (D : DefF K mg "with_person" s_with_person) : Cal P w K mg base 2 "with_person" R_with_person :=
  cal_of ["starts", "start"] D (fun _ _ _ _ _ _ us hl => match us, hl with | [_, _], _ => rfl) fun f fd Fn => by
    have sc := sc_with_person
    refine fn_pure Fn sc (fun ds d h => by cases h <;> rfl) fun cdv A outer s H E hr => ?_
    have hu := hr.units
    refine ⟨_, (pss_cons (ps_if (pt_not (pt_val (C8.pe_c c_is_within hr (by decide) (by rfl) (pa_cons (pv 1) (pa_cons pe_int (pa_cons (u_gint G.MAX_START) pa_nil)))))) (pss_one ps_dead) pss_nil)
      (pss_cons (ps_if (pt_cmpR op_ge (u_len G (pa_cons (pv 0) pa_nil)) (u_gint G.MAX_PEOPLE) (nomark _)) (pss_one ps_dead) pss_nil)
      (pss_one (ps_ret (pe_tup (StX.pa_star (pv 0) (pa_cons (pv 1) pa_nil))))))), fun ds d h => ?_⟩
    cases h with
    | mk ss i hl h0 h1 =>
      refine r_guard (b := false) ((t_not (t_test (e_c (.mk i 0 1000000) (a_cons (e_var rfl) (a_cons e_int (a_cons e_int a_nil)))))).is (by simp [h0, h1])) (fun h => nomatch h) fun _ => ?_
      refine r_guard (b := false) ((t_test (e_cmp (p := fun i j => decide (i ≥ j)) (c_len (xs := ss.map PyData.int) (a_cons (e_var rfl) a_nil) (.inr rfl)) e_int)).is (by simp; omega)) (fun h => nomatch h) fun _ => ?_
      refine r_ret ((e_tup (ds := ss.map PyData.int ++ [.int i]) ((a_star (xs := ss.map PyData.int) (e_var rfl) (.inr rfl) (a_cons (e_var rfl) a_nil)).is (by simp)) (by simp; omega)).is (by unfold intsD; simp)) rfl rfl
abbrev s_without_person : Stmt := top 64
abbrev n_without_person : List Str := ["starts", "person"]
theorem sc_without_person : FnScope n_without_person ["starts", "person"] (defScope s_without_person) := ⟨rfl, rfl, rfl, by decide +kernel, rfl, by decide +kernel, by decide +kernel⟩
theorem f_without_person (G : Gs K mg) (c_is_within : Cal P w K mg base 1 "is_within" R_is_within) (D : DefF K mg "without_person" s_without_person) : Cal P w K mg base 2 "without_person" R_without_person :=
  cal_of ["starts", "person"] D (fun _ _ _ _ _ _ us hl => match us, hl with | [_, _], _ => rfl) fun f fd Fn => by
    have sc := sc_without_person
    refine fn_pure Fn sc (fun ds d h => by cases h <;> rfl) fun cdv A outer s H E hr => ?_
    have hu := hr.units
    refine ⟨_, (pss_cons (ps_if (pt_not (pt_val (C8.pe_c c_is_within hr (by decide) (by rfl) (pa_cons (pv 1) (pa_cons pe_int (pa_cons (pe_op op_sub (u_len G (pa_cons (pv 0) pa_nil)) pe_int) pa_nil)))))) (pss_one ps_dead) pss_nil)
      (pss_cons (ps_if (pt_cmpR (kx_eq G hu) (u_len G (pa_cons (pv 0) pa_nil)) pe_int (nomark _)) (pss_one ps_dead) pss_nil)
      (pss_one (ps_ret (pe_tup (StX.pa_star (pe_slice (kx_sl G) (pv 0) po_none (po_some (pv 1))) (StX.pa_star (pe_slice (kx_sl G) (pv 0) (po_some (pe_op (kx_add G) (pv 1) pe_int)) po_none) pa_nil))))))), fun ds d h => ?_⟩
    cases h with
    | mk ss h2 h10 =>
      refine r_guard (b := false) ((t_not (t_test (e_c (.mk 0 0 ((ss.length : Int) - 1)) (a_cons (e_var rfl) (a_cons e_int (a_cons ((e_sub (c_len (xs := ss.map PyData.int) (a_cons (e_var rfl) a_nil) (.inr rfl)) e_int).is (by rw [List.length_map])) a_nil)))))).is (by simp; omega)) (fun h => nomatch h) fun _ => ?_
      refine r_guard (b := false) ((t_test (e_eqI (c_len (xs := ss.map PyData.int) (a_cons (e_var rfl) a_nil) (.inr rfl)) e_int)).is (by simp; omega)) (fun h => nomatch h) fun _ => ?_
      refine r_ret ((e_tup (ds := (ss.drop 1).map PyData.int) ((a_star (xs := []) ((e_slu (xs := ss.map PyData.int) (lo := none) (hi := some 0) (e_var rfl) o_none (o_some (e_var rfl))).is (t := .d (.tuple [])) ?_) (.inr rfl) (a_star (xs := (ss.drop 1).map PyData.int) ((e_slu (xs := ss.map PyData.int) (lo := some 1) (hi := none) (e_var rfl) (o_some (e_add (i := 0) (j := 1) (e_var rfl) e_int)) o_none).is ?_) (.inr rfl) a_nil)).is (by simp)) (by simp; omega)).is rfl) rfl rfl
      · rw [cutD_first]
      · rw [cutD_rest (by simp; omega), List.map_drop]
end
end K45
-- E1
set_option maxHeartbeats 4000000
/-! two forms of the text that the hand layer lacks: a, *b = tuple; match of a text -/
namespace K45
open PySem PySem.Spec PyProof.Rows L2
section
variable {prog : Program} {w : World} {A : Around} {E : Value → Shared → Prop} {s : Shared}
/-- a, *b: the first item, then a new list of the others -/
theorem star_items {l : Addr} {x : Value} {xs : List Value} {Q : List Value → Shared → Prop} (hl : IsTup s.heap l (x :: xs).toArray) (hh : A.handled = none) (hz : xs.length ≤ 1000)
    (h : ∀ h' tk, (∀ b o, s.heap.get? b = some o → h'.get? b = some o) → wpAny (model prog w) A (newList xs) (fun d s' => Q [x, d] s') E { s with heap := h', toks := tk }) : wpAny (model prog w) A (unpackItems (.ref l) 2 (some 1)) Q E s := by
  have hlt : l ≠ s.heap.objs.size := by obtain ⟨o, ho, _⟩ := hl; exact Nat.ne_of_lt (Heap.lt_size ho)
  have hsz : (x :: xs).toArray.size = xs.length + 1 := by simp
  unfold unpackItems
  refine wpAny_bind ?_
  unfold notIterableAtAll
  refine wpAny_bind (wpAny_specialOf hl.typeIs slot_tuple_iter.lookup ?_)
  refine wpAny_pure ?_
  simp only [Bool.false_eq_true, if_false]
  refine wpAny_bind (wpAny_holding (iter_tuple hl ?_))
  refine wpAny_bind (wpAny_holding (draw_tuple hlt 1 0 _ _ ⟨_, Heap.get?_push_size _ rfl, rfl, rfl⟩ (hl.push _) (by rw [hsz]; omega) fun h₁ hit₁ hs₁ => ?_))
  have hl₁ : IsTup h₁ l (x :: xs).toArray := (hl.push _).extBut hs₁.extBut hlt
  rw [Nat.zero_add] at hit₁
  have hit₁' := hit₁
  obtain ⟨oi, hoi, _⟩ := hit₁'
  have hl₁' := hl₁
  obtain ⟨ol, hol, _⟩ := hl₁'
  have ef : List.take 1 (List.drop 0 (x :: xs).toArray.toList) = [x] := by simp
  rw [ef]
  rw [if_neg (show ¬ ([x].length < 1) by simp)]
  refine wpAny_bind (wpAny_holding (PySem.W.kun_collect (s := { s with heap := h₁ }) (T := "tuple_iterator") (.inr (.inr (.inr rfl))) (Walks.tuple (A := A.in1) hh s.heap.objs.size l hlt (x :: xs).toArray) (fun j u st => st.1.typeIs) (k := 1) (by rw [hsz]; omega) ⟨hit₁, hl₁⟩ (Heap.lt_size hoi) (Heap.lt_size hol) (fun h₂ tk hk => ?_) (by rw [sizeLine_eq, hsz]; omega)))
  have er : List.drop 1 (x :: xs).toArray.toList = xs := by simp
  rw [er]
  show wpAny _ _ (if xs.length < 2 - 1 - 1 then _ else _) _ _ _
  rw [if_neg (by omega)]
  show wpAny _ _ (newList (xs.take (xs.length - (2 - 1 - 1))) >>= fun d => pure ([x] ++ [d] ++ xs.drop (xs.length - (2 - 1 - 1)))) _ _ _
  have e1 : xs.take (xs.length - (2 - 1 - 1)) = xs := List.take_of_length_le (by omega)
  have e2 : xs.drop (xs.length - (2 - 1 - 1)) = [] := List.drop_eq_nil_of_le (by omega)
  rw [e1, e2]
  refine wpAny_bind (wpAny_mono (h h₂ tk fun b o e => ?_) (fun d s' q => wpAny_pure q) fun _ _ z => z)
  exact hk b o (Nat.ne_of_lt (Heap.lt_size e)) (hs₁.extBut b o (Nat.ne_of_lt (Heap.lt_size e)) (Heap.get?_push_of_some _ e))
end
/-- a, *b = e -/
def gStar (K : PySem.W.Frag) (t : TGs) : TG := fun v σ H Q => ∃ a x xs, v = .ref a ∧ SqT K H a (x :: xs) ∧ xs.length ≤ 1000 ∧ ∀ p, H p = none → t [x, .ref p] σ (upd H p (.lst xs)) Q
section
variable {X : Cx} {pos : Pos}
theorem pg_star {es : List Expr} {k : Nat} {t : TGs} (hc : X.calm = true) (h : PGs X es t)
    (hn : (assignEach es X.env).length = 2 := by rfl) (hst : (assignEach es X.env).findIdx? (·.1) = some 1 := by rfl) : PG X (.Tuple es k pos) (gStar X.K t) := by
  refine ⟨fun pins s σ H v u Q I r hw => ?_⟩
  obtain ⟨a, x, xs, e1, hq, hl, hw⟩ := hw
  subst e1
  cases r
  obtain ⟨its, rv, ht, hz⟩ := I.tuple hq
  cases rv with
  | @cons _ y _ ys rx rr =>
    have hys : ys.length = xs.length := rr.length.symm
    rw [PyProof.Rows.assign_Tuple]
    refine wpAny_bind (wpAny_standAt ?_)
    unfold unpack
    rw [hn, hst]
    refine wpAny_bind (wpAny_holding (star_items ht (I.ok.hd hc) (by omega) fun h' tk keep => ?_))
    have I1 : Inv X pins σ H { s with heap := h', toks := tk } := I.kept (t' := tk) keep
    refine wpAny_newObj_type ?_ (by show ys.toArray.size ≤ sizeLine; rw [List.size_toArray, hys]; exact Nat.le_trans hl (by decide))
    have hf : H h'.objs.size = none := I1.hok.fresh (Nat.le_refl _)
    have I2 : Inv X pins σ (upd H h'.objs.size (.lst xs)) ⟨h'.push { cls := .type "list", data := .seq ys.toArray 0 }, s.gens, s.drawn, tk, s.os⟩ :=
      I1.laid (t' := tk) (fun b u e => Heap.get?_push_of_some _ e) (Nat.le_refl _) ⟨Nat.le_trans hl (by decide), ys, 0, rr, Heap.get?_push_size _ rfl⟩
    exact h.run pins _ σ _ [x, .ref h'.objs.size] _ Q I2 (.cons rx (.cons rfl .nil)) (hw _ hf)
end
theorem pgs_star {X : Cx} {e : Expr} {es : List Expr} {p : Pos} {t : TG} {u : TGs} (h1 : PG X e t) (h2 : PGs X es u)
    (hs : (assignEach (.Starred e p :: es) X.env).map (·.2) = assign e X.env :: (assignEach es X.env).map (·.2) := by rfl) : PGs X (.Starred e p :: es) (gCons t u) := by
  refine ⟨fun pins s σ H vs us Q I r h => ?_⟩
  obtain ⟨v, vr, e1, h⟩ := h
  subst e1
  cases r with
  | cons r rr =>
    rw [hs]
    refine assignInOrder_cons (thn (h1.run pins s σ H _ _ _ I r h) fun _ s1 ⟨σ1, H1, I1, q1⟩ => ?_)
    exact h2.run pins s1 σ1 H1 _ _ Q I1 rr q1
/-! ### match -/
/-- the cases of a match, of the value v -/
def PMC (X : Cx) (cs : List MatchCase) (t : V → TS) : Prop := ∀ (first : Bool) (pins : List (Addr × Obj)) (s : Shared) (σ : St) (H : Hp) (D : Ends) (v : V) (u : Value), Inv X pins σ H s → RelV v u → t v D σ H → wpAny (model X.prog X.w) X.A (matchCases cs X.env u first) (SP X pins D) X.xe s
def tCase (te : TE) (tb : TS) (tr : V → TS) : V → TS := fun v D σ H => te σ H fun y H1 => rEq v y H1 fun z H2 => ∃ k, z = .bl k ∧ if k = true then tb D σ H2 else tr v D σ H2
section
variable {X : Cx} {pos p : Pos} {e : Expr} {te : TE} {tb : TS} {tr : V → TS} {body : List Stmt} {rest cs : List MatchCase}
theorem pmc_val (he : PE X e te) (hb : PSs X body tb) (hr : PMC X rest tr) : PMC X (⟨.MatchValue e p, none, body⟩ :: rest) (tCase te tb tr) := by
  intro first pins s σ H D v u I r h
  refine wpAny_matchCases_cons (wpAny_matchPattern_Value (thn (he.run pins s σ H _ I h) fun y s1 ⟨yv, H1, I1, ry, q1⟩ => thn (op_eq (X := X) pins s1 σ H1 v yv u y _ I1 r ry q1) fun z s2 ⟨zv, H2, I2, rz, k, ez, q2⟩ => ?_))
  subst ez
  cases rz
  refine thn (tru_ok pins s2 σ H2 (.bl k) (.bool k) (fun b H' => if b = true then tb D σ H' else tr v D σ H') I2 rfl ⟨k, ?_, q2⟩) fun b s3 ⟨H3, I3, q3⟩ => ?_
  · rfl
  · cases b with
    | true =>
      rw [if_pos rfl] at q3 ⊢
      exact wpAny_assignInOrder_none (hb.run pins s3 σ H3 D I3 q3)
    | false =>
      rw [if_neg Bool.false_ne_true] at q3 ⊢
      exact hr false pins s3 σ H3 D v u I3 r q3
theorem pmc_else (hb : PSs X body tb) : PMC X (⟨.MatchAs none none p, none, body⟩ :: rest) (fun _ => tb) := by
  intro first pins s σ H D v u I r h
  refine wpAny_matchCases_cons (wpAny_matchPattern_Capture ?_)
  exact wpAny_assignInOrder_none (hb.run pins s σ H D I h)
theorem ps_match (he : PE X e te) (hm : PMC X cs tr) : PS X (.Match e cs pos) (fun D σ H => te σ H fun v H1 => tr v D σ H1) := by
  refine ⟨fun pins s σ H D I h => ?_⟩
  exact wpAny_Match (thn (he.run pins s σ H _ I h) fun u s1 ⟨v, H1, I1, rv, q1⟩ => hm true pins s1 σ H1 D v u I1 rv q1)
end
end K45
-- E2
set_option maxHeartbeats 4000000
namespace K45
open PySem PySem.Spec PyProof.Rows L2
open Evl (Ex ex_rd ex_l ex_t)
/-! ### an own error class, called without arguments -/
theorem pmk_own0 {X : Cx} {C : Addr} {bmB : List Value} {B newId initId : String} {x : Str} {p pos : Pos} (F : ExcBaseFacts B newId initId bmB) (q : PySem.W.excIn X.K C bmB newId = true) (gC : X.mg x = some (.ref C)) (kC : PySem.W.keepIn X.K (.ref C) = true) (r : Raises X (.ref C)) (hg : Gl X x)
    (hdb : (x == ("__debug__" : Str)) = false := by decide) : PMk X (.Call (.Name x p) [] [] pos) (fun σ H Q => Q (.ref C) none H) := by
  intro pins s σ H Q I h
  refine wpAny_Call_Name_kw (ld_glob I hg gC ?_ hdb)
  refine PySem.W.callWith_K0 I.kIn kC ?_
  obtain ⟨bm, N, nm, qn, bs, hdct, sn, sub, ab, col, dd, k0, k1, k2, k3, k5, mN, hC, hN, hni, T⟩ := exc_obj I.kIn q
  obtain ⟨hp, g, dr, tk, os⟩ := s
  refine wpAny_call_exc_subT F T hC hN hni (fun h' e hm => ?_) (by simp)
  exact mk_of I hm r h (I.hok.gone hm.new)
/-! ### o.m(k = v) -/
def tMethN (C : Addr) (m : Str) (n : Nat) (sp : Sp) (gV : List V → List V → List V) (E : XK) (ta : TE) (tk : TA) : TE := fun σ H Q => ta σ H fun x H1 => ∃ a dx fs, x = .ref a ∧ H1 a = some (.ins C dx fs) ∧ fs.lookup m = none ∧
  tk σ H1 fun zs H2 => zs.length = n ∧ sp (gV [x] zs) H2 Q E
section
variable {X : Cx} {CX : CXT} {k : Nat} {f C : Addr} {fd : FuncData} {ps ks : List Str} {sp : Sp} {E : XK} {m : Str} {pos apos : Pos} {o : Expr} {kws : List Keyword} {ta : TE} {tk : TA} {g : List Value → List Value → List Value} {gV : List V → List V → List V} {pl : Sem Bool}
theorem pe_methN0 (he : PE X o ta) (c : Cls X.K C) (hm : Meth X.K C m f) (F : FnOk X.prog X.w X.K X.mg X.base CX k f fd ps sp) (hr : Room k X.A) (hb : KBn X.K fd ps 1 ks g gV) (hx : Passes CX X E) (hkw : PK X kws tk)
    (hall : (backToKw pos (keywordEach kws X.env)).all (·.1.isSome) = true := by rfl) (hks : (backToKw pos (keywordEach kws X.env)).filterMap (·.1) = ks := by rfl)
    (hpl : ((backTo pos (starEach [] X.env)).any (·.1) || (backToKw pos (keywordEach kws X.env)).any (·.1.isNone)) = false := by rfl)
    (ht : eval (.Call (.Attribute o m apos) [] kws pos) X.env = (do
      let ov ← eval o X.env
      standAt apos.atName
      let (f, first) ← holding [ov] (getMethod ov m pl)
      callWith pos f first (backTo pos (starEach [] X.env)) (backToKw pos (keywordEach kws X.env))) := by rfl) :
    PE X (.Call (.Attribute o m apos) [] kws pos) (tMethN C m ks.length sp gV E ta tk) := by
  refine ⟨fun pins s σ H Q I h => ?_⟩
  refine PySem.W.methodCall_KW (pl := pl) (thn (he.run pins s σ H _ I h) fun u s1 ⟨x, H1, I1, rx, a, dx, fs, ex, ea, l, q⟩ => ?_) ht
  subst ex
  obtain rfl : u = Value.ref a := rx
  refine getmeth_ok I1 ea c hm l ?_
  refine PySem.W.callWith_KW0 (first := [.ref a]) (h₀ := X.base) I.ok.mod.kin hm.kp hall ?_ hpl
  refine thn (hkw.run pos pins s1 σ H1 _ I1 q) fun ws s2 ⟨zs, H2, I2, rz, l2, q2⟩ => ⟨I2.kIn, ?_⟩
  rw [hks]
  exact run_fnN (us := [.ref a]) (vs := [.ref a]) F hr hb hx I2 (.cons rfl .nil) rz rfl l2 q2
end
/-! ### their readings -/
section
variable {K : PySem.W.Frag} {F : Fx} {L : List Sl} {te : TE} {tb : TS} {tr : V → TS} {Po : Post}
theorem r_match {x : Str} (h : EvE F te L (.d (.str x))) (k : RunE F (tr (.str x)) L Po) : RunE F (fun D σ H => te σ H fun v H1 => tr v D σ H1) L Po := fun H0 B0 B H σ D f g E n r b c =>
  h H0 B0 B H σ f g E _ fun v B1 H1 g1 o1 => by
    rw [dp_str o1]
    exact k H0 B0 B1 H1 σ D f (g.trans g1) (E.mono g1) (n.mono g1.bb) r (b.mono g1.bb) (c.mono g1.bb)
theorem r_case {x y : Str} (h : EvE F te L (.d (.str y))) (h1 : x = y → RunE F tb L Po) (h2 : x ≠ y → RunE F (tr (.str x)) L Po) : RunE F (tCase te tb tr (.str x)) L Po := fun H0 B0 B H σ D f g E n r b c =>
  h H0 B0 B H σ f g E _ fun v B1 H1 g1 o1 => by
    rw [dp_str o1]
    refine ⟨rfl, decide (V.str x = V.str y), rfl, ?_⟩
    by_cases e : x = y
    · subst e
      rw [decide_eq_true rfl, if_pos rfl]
      exact h1 rfl H0 B0 B1 H1 σ D f (g.trans g1) (E.mono g1) (n.mono g1.bb) r (b.mono g1.bb) (c.mono g1.bb)
    · rw [decide_eq_false (fun z => e (by cases z; rfl)), if_neg Bool.false_ne_true]
      exact h2 e H0 B0 B1 H1 σ D f (g.trans g1) (E.mono g1) (n.mono g1.bb) r (b.mono g1.bb) (c.mono g1.bb)
theorem r_star {i j : Nat} {d : PyData} {ds : List PyData} (h : EvE F te L (.d (.tuple (d :: ds)))) (hz : ds.length ≤ 1000) (k : Po.nx ((L.set i (.d d)).set j (.d (.list ds)))) : RunE F (tAsg te (gStar K (gCons (gName i) (gCons (gName j) gNil)))) L Po := fun H0 B0 B H σ D f g E n r b c =>
  h H0 B0 B H σ f g E _ fun v B1 H1 g1 o1 => by
    obtain ⟨a, vs, rfl, ea, ra⟩ := dp_tup o1
    cases ra with
    | @cons x xs _ _ rx rr =>
      refine ⟨a, x, xs, rfl, SqT.of (g1.bh _ _ ea), by rw [RpAll.len rr]; exact hz, fun p hp => ⟨_, _, rfl, _, _, rfl, rfl, ?_⟩⟩
      have g2 : Grow B1 H1 (upd B1 p (.lst xs)) (upd H1 p (.lst xs)) := Grow.put g1.bh hp
      refine n _ _ _ _ k ((g.trans g1).trans g2) (g1.bb.trans g2.bb) ?_
      exact (((E.mono g1).mono g2).set (s := .d d) (dp_mono g2.bb rx) rfl).set (s := .d (.list ds)) (Rp.lst upd_same (dpa_mono g2.bb rr)) rfl
/-- x(e, *y) -/
theorem e_star {R : List PyData → PyData → Prop} {ds : List PyData} {d : PyData} {E : XK} {tr : TA} (hR : R ds d) (h : EvA F tr L (ds.map Sl.d)) : EvE F (fun σ H Q => tr σ H fun vs H1 => spR R (vs ++ []) H1 Q E) L (.d d) := e_c hR h
end
section
variable {X : Cx} {k j : Nat} {x : Str} {R : List PyData → PyData → Prop} {p pos : Pos} {e : Expr} {es : List Expr} {t : TA}
/-- x(e, .., *y) of a def that keeps R -/
theorem pe_cs (c : Cal X.prog X.w X.K X.mg X.base k x R) (hr : Room j X.A) (hk : k ≤ j) (hg : Gl X x) (ha : PA X (e :: es) t) (hd : (x == ("__debug__" : Str)) = false := by decide)
    (he : starEach (e :: es) X.env = (false, eval e X.env) :: starEach es X.env := by rfl) (hst : (backTo pos (starEach es X.env)).any (·.1) = true := by rfl) :
    PE X (.Call (.Name x p) (e :: es) [] pos) (fun σ H Q => t σ H fun vs H1 => spR R (vs ++ []) H1 Q E0) := by
  obtain ⟨f, fd, ps, ds, F, hm, kp, b, d⟩ := c.ex
  cases d
  exact StX.pe_callS2 (F.raw b .nil) (hr.mono hk) kp hg hm pass0 ha hd he hst
end
/-! ### growth, but for some lists -/
structure GrowM (M : Addr → Prop) (B H B' H' : Hp) : Prop where
  bb : Ex B B'
  kk : ∀ a o, ¬ M a → H a = some o → H' a = some o
  bh : Ex B' H'
  nw : ∀ a o, H a = some o → B a = none → B' a = none
  dom : ∀ a, H' a = none → H a = none
theorem ex_none {H H' : Hp} (e : Ex H H') {a : Addr} (n : H' a = none) : H a = none := by
  cases q : H a with
  | none => rfl
  | some o => rw [e a o q] at n; cases n
theorem Grow.toM {M : Addr → Prop} {B H B' H' : Hp} (g : Grow B H B' H') : GrowM M B H B' H' := ⟨g.bb, fun a o _ e => g.hh a o e, g.bh, g.nw, fun _ n => ex_none g.hh n⟩
theorem GrowM.trans {M : Addr → Prop} {B H B1 H1 B2 H2 : Hp} (a : GrowM M B H B1 H1) (b : GrowM M B1 H1 B2 H2) : GrowM M B H B2 H2 :=
  ⟨a.bb.trans b.bb, fun x o m e => b.kk x o m (a.kk x o m e), b.bh, fun x o e n => by
    cases q : H1 x with
    | none => rw [a.dom x q] at e; cases e
    | some o1 => exact b.nw x o1 q (a.nw x o e n), fun x n => a.dom x (b.dom x n)⟩
theorem GrowM.mut {M : Addr → Prop} {B H : Hp} {p : Addr} {o o' : HO} (h : Ex B H) (m : M p) (bp : B p = none) (hp : H p = some o') : GrowM M B H B (upd H p o) :=
  ⟨Ex.refl B, fun a u n e => by rw [upd_ne (fun z => n (by rw [z]; exact m))]; exact e, Ex.mut h bp, fun _ _ _ n => n, fun a n => by
    by_cases z : a = p
    · subst z; rw [upd_same] at n; cases n
    · rw [upd_ne z] at n; exact n⟩
/-- slots that hold no list of the call's own don't look at the heap -/
theorem Env.flat {H0 B H H0' H' : Hp} {σ : St} {L : List Sl} (E : Env H0 B H σ L) (hf : (L.all fun s => !isM s) = true) : Env H0' B H' σ L := by
  have no : ∀ {i : Nat} {s : Sl}, L[i]? = some s → isM s = false := fun {i s} e => by
    have := List.all_eq_true.mp hf s (List.mem_of_getElem? e)
    simpa using this
  refine ⟨E.len, fun i s e => ?_, fun i j s t l _ e1 m1 => ?_⟩
  · rcases E.at_ i s e with z | ⟨v, h1, o⟩
    · exact .inl z
    · refine .inr ⟨v, h1, ?_⟩
      cases s with
      | u => trivial
      | d x => exact o
      | v x => exact o
      | m xs => exact absurd (no e) (fun z => nomatch z)
  · rw [no e1] at m1; cases m1
theorem Env.flatB {H0 B H H0' B' H' : Hp} {σ : St} {L : List Sl} (E : Env H0 B H σ L) (hf : (L.all fun s => !isM s) = true) (e : Ex B B') : Env H0' B' H' σ L := by
  have E2 : Env (fun _ => none) B (fun _ => none) σ L := E.flat hf
  refine ⟨E2.len, fun i s h => ?_, fun i j s t l a e1 m1 e2 m2 => E2.sep i j s t l a e1 m1 e2 m2⟩
  rcases E2.at_ i s h with z | ⟨v, h1, o⟩
  · exact .inl z
  · refine .inr ⟨v, h1, ?_⟩
    cases s with
    | u => trivial
    | d x => exact dp_mono e o
    | v x => exact o
    | m xs =>
      have := List.all_eq_true.mp hf _ (List.mem_of_getElem? h)
      cases this
/-! ### steps on a heap, one by one -/
theorem EvE.go {F : Fx} {te : TE} {L : List Sl} {s : Sl} (h : EvE F te L s) {B H : Hp} {σ : St} (f : F H B) (eb : Ex B H) (E : Env H B H σ L) {Q : VK} (q : ∀ v B' H', Grow B H B' H' → Ok H B' H' v s → Q v H') : te σ H Q := h H B B H σ f (.rfl' eb) E Q q
/-- a pure step, then the rest -/
theorem RunE.then {F : Fx} {tx ty : TS} {L M : List Sl} {H0 B0 B H : Hp} {σ : St} {D : Ends} (f : F H0 B0) (g : Grow B0 H0 B H) (E : Env H0 B H σ L) (k : RunE F tx L { nx := fun L' => L' = M })
    (q : ∀ B' H' σ', Grow B0 H0 B' H' → Ex B B' → Env H0 B' H' σ' M → ty D σ' H') : tSeq tx ty D σ H :=
  k H0 B0 B H σ { D with nx := ty D } f g E (fun L' B' H' σ' e g' x E' => by subst e; exact q B' H' σ' g' x E') (fun _ _ _ _ z => z.elim) (fun _ _ _ _ z => z.elim) (fun _ _ _ _ z => z.elim)
theorem cps_app {K : PySem.W.Frag} {F : Fx} {L : List Sl} {ta te : TE} {l : Addr} {d : PyData} {xs : List PyData} {B H : Hp} {σ : St} {D : Ends} (f : F H B) (eb : Ex B H) (E : Env H B H σ L) (h1 : EvE F ta L (.v (.ref l))) (h2 : EvE F te L (.d d)) (hl : Holds B H l xs) (hz : xs.length ≤ 1000)
    (q : ∀ v vs B' H', Grow B H B' H' → H' l = some (.lst vs) → RpAll B' vs xs → Rp B' v d → D.nx σ (upd H' l (.lst (vs ++ [v])))) : tDrop (tBM K "list" rAppend ta (tCons te tNil)) D σ H :=
  h1 H B B H σ f (.rfl' eb) E _ fun x B1 H1 g1 o1 => by
    obtain rfl : x = .ref l := o1
    obtain ⟨vs, hv, ra⟩ := hl.mono g1.bb g1.hh
    refine ⟨.inl ⟨rfl, vs, SqL.of hv⟩, h2 H B B1 H1 σ f g1 (E.mono g1) _ fun v B2 H2 g2 o2 => ?_⟩
    exact ⟨l, vs, v, rfl, rfl, g2.hh _ _ hv, Nat.lt_of_le_of_lt (by rw [RpAll.len ra]; exact hz) (by decide), q v vs B2 H2 (g1.trans g2) (g2.hh _ _ hv) (dpa_mono g2.bb ra) o2⟩
theorem RpAll.dropLast {H : Hp} {vs : List V} {xs : List PyData} (h : RpAll H vs xs) : RpAll H vs.dropLast xs.dropLast := by
  rw [List.dropLast_eq_take, List.dropLast_eq_take, RpAll.len h]
  exact RpAll.take _ h
theorem cps_pop {K : PySem.W.Frag} {F : Fx} {L : List Sl} {ta : TE} {l : Addr} {xs : List PyData} {B H : Hp} {σ : St} {D : Ends} (f : F H B) (eb : Ex B H) (E : Env H B H σ L) (h1 : EvE F ta L (.v (.ref l))) (hl : Holds B H l xs) (hn : xs ≠ [])
    (q : ∀ vs B' H', Grow B H B' H' → H' l = some (.lst vs) → RpAll B' vs xs → D.nx σ (upd H' l (.lst vs.dropLast))) : tDrop (tBM0 K "list" rPop ta) D σ H :=
  h1 H B B H σ f (.rfl' eb) E _ fun x B1 H1 g1 o1 => by
    obtain rfl : x = .ref l := o1
    obtain ⟨vs, hv, ra⟩ := hl.mono g1.bb g1.hh
    have ln := RpAll.len ra
    have hpos : 0 < vs.length := by rw [ln]; exact List.length_pos_iff.mpr hn
    refine ⟨.inl ⟨rfl, vs, SqL.of hv⟩, l, vs, vs[vs.length - 1], rfl, rfl, hv, List.getElem?_eq_getElem (by omega), ?_⟩
    exact q vs B1 H1 g1 hv ra
/-! ### the trip's lists are changed -/
section
variable {C t ls lf le : Addr} {B H : Hp} {sts fins eds : List PyData}
theorem TripS.ne_t (T : TripS C B H t ls lf le sts fins eds) {l : Addr} {xs : List PyData} (h : Holds B H l xs) : t ≠ l := fun z => by
  obtain ⟨dx, e⟩ := T.ins
  obtain ⟨vs, e2, _⟩ := h
  rw [z, e2] at e; cases e
theorem TripS.setS (T : TripS C B H t ls lf le sts fins eds) {vs : List V} {xs : List PyData} (r : RpAll B vs xs) : TripS C B (upd H ls (.lst vs)) t ls lf le xs fins eds where
  ins := let ⟨dx, e⟩ := T.ins; ⟨dx, by rw [upd_ne (T.ne_t T.st)]; exact e⟩
  st := ⟨vs, upd_same, r⟩
  fi := let ⟨ws, e, a⟩ := T.fi; ⟨ws, by rw [upd_ne T.sf.symm]; exact e, a⟩
  ed := let ⟨ws, e, a⟩ := T.ed; ⟨ws, by rw [upd_ne T.se.symm]; exact e, a⟩
  bs := T.bs
  bf := T.bf
  be := T.be
  sf := T.sf
  se := T.se
  fe := T.fe
theorem TripS.setF (T : TripS C B H t ls lf le sts fins eds) {vs : List V} {xs : List PyData} (r : RpAll B vs xs) : TripS C B (upd H lf (.lst vs)) t ls lf le sts xs eds where
  ins := let ⟨dx, e⟩ := T.ins; ⟨dx, by rw [upd_ne (T.ne_t T.fi)]; exact e⟩
  st := let ⟨ws, e, a⟩ := T.st; ⟨ws, by rw [upd_ne T.sf]; exact e, a⟩
  fi := ⟨vs, upd_same, r⟩
  ed := let ⟨ws, e, a⟩ := T.ed; ⟨ws, by rw [upd_ne T.fe.symm]; exact e, a⟩
  bs := T.bs
  bf := T.bf
  be := T.be
  sf := T.sf
  se := T.se
  fe := T.fe
theorem TripS.setE (T : TripS C B H t ls lf le sts fins eds) {vs : List V} {xs : List PyData} (r : RpAll B vs xs) : TripS C B (upd H le (.lst vs)) t ls lf le sts fins xs where
  ins := let ⟨dx, e⟩ := T.ins; ⟨dx, by rw [upd_ne (T.ne_t T.ed)]; exact e⟩
  st := let ⟨ws, e, a⟩ := T.st; ⟨ws, by rw [upd_ne T.se]; exact e, a⟩
  fi := let ⟨ws, e, a⟩ := T.fi; ⟨ws, by rw [upd_ne T.fe]; exact e, a⟩
  ed := ⟨vs, upd_same, r⟩
  bs := T.bs
  bf := T.bf
  be := T.be
  sf := T.sf
  se := T.se
  fe := T.fe
end
/-- the trip's lists -/
def Lists (ls lf le : Addr) : Addr → Prop := fun a => a = ls ∨ a = lf ∨ a = le
end K45
-- BF
set_option maxHeartbeats 4000000
namespace K45
open PySem PySem.Spec PyProof.Rows L2
open Evl (Ex ex_rd ex_l ex_t)
section
variable {P : Program} {w : World} {K : PySem.W.Frag} {mg : Str → Option Value} {base : Heap} {C : Addr}
abbrev s_Trip_state_at : Stmt := inClass (top 69) 21
abbrev n_Trip_state_at : List Str := ["self", "version"]
theorem sc_Trip_state_at : FnScope n_Trip_state_at ["self", "version"] (defScope s_Trip_state_at) := ⟨rfl, rfl, rfl, by decide +kernel, rfl, by decide +kernel, by decide +kernel⟩
theorem f_Trip_state_at (G : Gs K mg) (tc : TripC K C) (c_is_within : Cal P w K mg base 1 "is_within" R_is_within)  (D : DefM K C "state_at" "Trip.state_at" s_Trip_state_at) : CalM P w K mg base C CX0 2 "state_at" (spT C R_at) :=
  calM_of ["self", "version"] D (fun _ _ _ _ _ _ us hl => match us, hl with | [_, _], _ => rfl) fun f fd Fn => by
    have sc := sc_Trip_state_at
    refine fnT Fn sc (fun sts fins eds ds d h => by cases h <;> rfl) fun cdv A outer s H E hr => ?_
    have hu := hr.units
    refine ⟨_, (pss_cons (ps_if (pt_cmp (pc_isN (pv 1)) (by rfl)) (pss_one (ps_ret (pe_ix (kx_ix G) (pe_fld (pv 0) rfl) (pe_un un_neg pe_int) (fun _ _ => rfl)))) pss_nil)
      (pss_cons (ps_if (pt_not (pt_val (C8.pe_c c_is_within hr (by decide) (by rfl) (pa_cons (pv 1) (pa_cons pe_int (pa_cons (u_len G (pa_cons (pe_fld (pv 0) rfl) pa_nil)) pa_nil)))))) (pss_one ps_dead) pss_nil)
      (pss_one (ps_ret (pe_ix (kx_ix G) (pe_fld (pv 0) rfl) (pv 1) (fun _ _ => rfl)))))), fun tr ls lf le sts fins eds ds d h => ?_⟩
    cases h with
    | no _ _ _ d h => exact r_guard (b := true) (t_test (e_isN (x := .none) (e_var rfl))) (fun _ => r_ret (e_tix (fun _ _ h => h.st) (e_fld tc.cls tc.s (fun _ _ h => h) (e_var rfl) rfl) (e_neg e_int) (atI_lastD _ _ h)) rfl rfl) fun h => nomatch h
    | mk _ _ _ i d hi h =>
      refine r_guard (b := false) (t_test (e_isN (x := .int (i : Int)) (e_var rfl))) (fun h => nomatch h) fun _ => ?_
      refine r_guard (b := false) ((t_not (t_test (e_c (R_is_within.mk (i : Int) 0 (eds.length : Int)) (a_cons (e_var rfl) (a_cons e_int (a_cons (c_tlen (fun _ _ h => h.ed) (a_cons (e_fld tc.cls tc.e (fun _ _ h => h) (e_var rfl) rfl) a_nil)) a_nil)))))).is (by simp; omega)) (fun h => nomatch h) fun _ => ?_
      exact r_ret (e_tix (fun _ _ h => h.st) (e_fld tc.cls tc.s (fun _ _ h => h) (e_var rfl) rfl) (e_var rfl) (atI_nat h)) rfl rfl
abbrev s_Trip_state : Stmt := inClass (top 69) 22
abbrev n_Trip_state : List Str := ["self", "version"]
theorem sc_Trip_state : FnScope n_Trip_state ["self", "version"] (defScope s_Trip_state) := ⟨rfl, rfl, rfl, by decide +kernel, rfl, by decide +kernel, by decide +kernel⟩
/-- Trip.state, its keyword's default None -/
def DefMK (K : PySem.W.Frag) (C : Addr) : Prop := ∃ f fd, FunD K "state" "Trip.state" (defArgs s_Trip_state) (defBody s_Trip_state) (defScope s_Trip_state) [] [(("version" : Str), V.non)] f fd ∧ Fun K "state" "Trip.state" s_Trip_state f fd ∧ Meth K C "state" f
structure CalS (P : Program) (w : World) (K : PySem.W.Frag) (mg : Str → Option Value) (base : Heap) (C : Addr) (k : Nat) : Prop where
  ex : ∃ f fd ds g gV, FnOk P w K mg base CX0 k f fd ["self", "version"] (spT C R_at) ∧ Meth K C "state" f ∧ Vals [V.non] ds ∧ Binds K fd ["self", "version"] ds ∧ KBn K fd ["self", "version"] 1 ["version"] g gV ∧ ∀ x z : V, gV [x] [z] = [x, z]
theorem f_Trip_state (tc : TripC K C) (c_state_at : CalM P w K mg base C CX0 2 "state_at" (spT C R_at)) (D : DefMK K C) : CalS P w K mg base C 3 := by
  obtain ⟨f, fd, FD, Fn, hm⟩ := D
  have sc := sc_Trip_state
  have F1 : FnOk P w K mg base CX0 3 f fd ["self", "version"] (spT C R_at) := by
    refine fnT Fn sc (fun sts fins eds ds d h => by cases h <;> rfl) fun cdv A outer s H E hr => ?_
    refine ⟨_, (pss_one (ps_ret (pe_cm c_state_at tc.cls pass0 hr (by decide) (pv 0) (pa_cons (pv 1) pa_nil)))), fun tr ls lf le sts fins eds ds d h => ?_⟩
    have hn : (tfs ls lf le).lookup ("state_at" : Str) = none := rfl
    cases h with
    | no _ _ _ d h => exact r_ret (e_meth (ds := [.none]) (fun _ _ h => h) hn (e_var rfl) (a_cons (e_var rfl) a_nil) (R_at.no _ _ _ d h)) rfl rfl
    | mk _ _ _ i d hi h => exact r_ret (e_meth (ds := [.int (i : Int)]) (fun _ _ h => h) hn (e_var rfl) (a_cons (e_var rfl) a_nil) (R_at.mk _ _ _ i d hi h)) rfl rfl
  obtain ⟨ds, v1, b1⟩ := FD.binds0 (ps := ["self", "version"]) 1 (by simp) rfl (fun D doc pm an cdv ct us ks hu hk => by
    match us, ks, hu, hk with
    | [u], [k], _, _ => exact ⟨_, _, _, _, _, _, rfl, rfl, rfl⟩)
  obtain ⟨mv, kb⟩ := FD.kbinds0 (ps := ["self", "version"]) 1 ["version"] [] (fun us _ ws => us ++ ws) (by simp) (by simp) (fun a _ c => a.append c) (fun D doc pm an cdv ct us mv ws hu hm hw => by
    match us, mv, ws, hu, hm, hw with
    | [u], [], [z], _, _, _ => exact rfl)
  exact ⟨f, fd, ds, _, _, F1, hm, v1, b1, kb, fun x z => rfl⟩

/-- what an edit makes of the starts -/
inductive EditOf : List Int → PyData → List Int → Prop
  | come (ss : List Int) (i : Int) (h : ss.length < 10) (h0 : 0 ≤ i) (h1 : i ≤ 1000000) : EditOf ss (.tuple [.str "come", .int i]) (ss ++ [i])
  | leave (ss : List Int) (h : 2 ≤ ss.length) (h2 : ss.length ≤ 10) : EditOf ss (.tuple [.str "leave", .int 0]) (ss.drop 1)
inductive R_after : RT
  | mk (sts fins eds : List PyData) (r e : PyData) (ss ss' : List Int) (h : sts.getLast? = some (.tuple [r, intsD ss])) (he : EditOf ss e ss') : R_after sts fins eds [e] (.tuple [r, intsD ss'])
abbrev s_Trip_state_after : Stmt := inClass (top 69) 12
abbrev n_Trip_state_after : List Str := ["self", "edit", "road", "starts", "word", "values"]
theorem sc_Trip_state_after : FnScope n_Trip_state_after ["self", "edit"] (defScope s_Trip_state_after) := ⟨rfl, rfl, rfl, by decide +kernel, rfl, by decide +kernel, by decide +kernel⟩
theorem f_Trip_state_after (G : Gs K mg) (tc : TripC K C) (c_with_person : Cal P w K mg base 2 "with_person" R_with_person) (c_without_person : Cal P w K mg base 2 "without_person" R_without_person)  (D : DefM K C "state_after" "Trip.state_after" s_Trip_state_after) : CalM P w K mg base C CX0 3 "state_after" (spT C R_after) :=
  calM_of ["self", "edit"] D (fun _ _ _ _ _ _ us hl => match us, hl with | [_, _], _ => rfl) fun f fd Fn => by
    have sc := sc_Trip_state_after
    refine fnT Fn sc (fun sts fins eds ds d h => by cases h <;> rfl) fun cdv A outer s H E hr => ?_
    have hu := hr.units
    refine ⟨_, (pss_cons (ps_asg (pe_ix (kx_ix G) (pe_fld (pv 0) rfl) (pe_un un_neg pe_int) (fun _ _ => rfl)) (pg_tup (by rfl) (pgs_cons (pg_name (i := 2) sc.nd rfl (Or.inl rfl)) (pgs_cons (pg_name (i := 3) sc.nd rfl (Or.inl rfl)) pgs_nil))))
      (pss_cons (ps_asg (pv 1) (pg_star rfl (pgs_cons (pg_name (i := 4) sc.nd rfl (Or.inl rfl)) (pgs_star (pg_name (i := 5) sc.nd rfl (Or.inl rfl)) pgs_nil)) (by rfl) (by rfl)))
      (pss_cons (ps_match (pv 4) (pmc_val pe_str (pss_one (ps_set (i := 3) sc.nd rfl (Or.inl rfl) (pe_cs c_with_person hr (by decide) (by rfl) (pa_cons (pv 3) (StX.pa_star (pv 5) pa_nil))))) (pmc_val pe_str (pss_one (ps_set (i := 3) sc.nd rfl (Or.inl rfl) (pe_cs c_without_person hr (by decide) (by rfl) (pa_cons (pv 3) (StX.pa_star (pv 5) pa_nil))))) (pmc_val pe_str pss_dead (pmc_else pss_dead)))))
      (pss_one (ps_ret (pe_tup (pa_cons (pv 2) (pa_cons (pv 3) pa_nil)))))))), fun tr ls lf le sts fins eds ds d h => ?_⟩
    cases h with
    | mk _ _ _ r e ss ss' h he =>
      refine r_seq (r_asgT (js := [2, 3]) (e_tix (fun _ _ h => h.st) (e_fld tc.cls tc.s (fun _ _ h => h) (e_var rfl) rfl) (e_neg e_int) (atI_lastD _ _ h)) (g_tup (gs_cons g_name (gs_cons g_name gs_nil))) rfl) ?_
      cases he with
      | come i hl h0 h1 =>
        refine r_seq (r_star (d := .str "come") (ds := [.int i]) (e_var rfl) (by simp) rfl) ?_
        refine r_seq (M := [.v (.ref tr), .d (.tuple [.str "come", .int i]), .d r, .d (intsD (ss ++ [i])), .d (.str "come"), .d (.list [.int i])]) (r_match (x := "come") (e_var rfl) (r_case (y := "come") e_str (fun _ => r_asg (e_star (ds := [intsD ss, .int i]) (R_with_person.mk ss i hl h0 h1) (a_cons (e_var rfl) (a_star (xs := [.int i]) (e_var rfl) (.inl rfl) a_nil))) rfl rfl) fun h => absurd rfl h)) ?_
        exact r_ret (e_tup (ds := [r, intsD (ss ++ [i])]) (a_cons (e_var rfl) (a_cons (e_var rfl) a_nil)) (by simp)) rfl rfl
      | leave h2 h10 =>
        refine r_seq (r_star (d := .str "leave") (ds := [.int 0]) (e_var rfl) (by simp) rfl) ?_
        refine r_seq (M := [.v (.ref tr), .d (.tuple [.str "leave", .int 0]), .d r, .d (intsD (ss.drop 1)), .d (.str "leave"), .d (.list [.int 0])]) (r_match (x := "leave") (e_var rfl) (r_case (y := "come") e_str (fun h => absurd h (by decide)) fun _ => r_case (y := "leave") e_str (fun _ => r_asg (e_star (ds := [intsD ss, .int 0]) (R_without_person.mk ss h2 h10) (a_cons (e_var rfl) (a_star (xs := [.int 0]) (e_var rfl) (.inl rfl) a_nil))) rfl rfl) fun h => absurd rfl h)) ?_
        exact r_ret (e_tup (ds := [r, intsD (ss.drop 1)]) (a_cons (e_var rfl) (a_cons (e_var rfl) a_nil)) (by simp)) rfl rfl

/-! ### the trip changes -/
/-- what is wished of an edit: the trip has one state more -/
def spEd (C : Addr) (mk : PyData → List V → List PyData → Prop) : Sp := fun vs H Q _ => ∃ B t ls lf le sts fins eds ws ds, Ex B H ∧ TripS C B H t ls lf le sts fins eds ∧ vs = .ref t :: ws ∧ RpAll B ws ds ∧
  ∃ (wk rd : Int) (bs ss ss' : List Int) (e : PyData), mk e ws ds ∧ sts.getLast? = some (.tuple [roadD wk rd bs, intsD ss]) ∧ Good wk rd bs ss' ∧ EditOf ss e ss' ∧ sts.length ≤ 50 ∧ fins.length ≤ 50 ∧ eds.length ≤ 50 ∧
  ∀ B' H', GrowM (Lists ls lf le) B H B' H' → TripS C B' H' t ls lf le (sts ++ [.tuple [roadD wk rd bs, intsD ss']]) (fins ++ [.int (finishOf wk rd bs ss')]) (eds ++ [e]) → Q (.int (eds.length + 1 : Nat)) H'
abbrev s_Trip_perform : Stmt := inClass (top 69) 13
abbrev n_Trip_perform : List Str := ["self", "edit", "road", "starts", "finish"]
theorem sc_Trip_perform : FnScope n_Trip_perform ["self", "edit"] (defScope s_Trip_perform) := ⟨rfl, rfl, rfl, by decide +kernel, rfl, by decide +kernel, by decide +kernel⟩
theorem f_Trip_perform (G : Gs K mg) (tc : TripC K C) (c_state_after : CalM P w K mg base C CX0 3 "state_after" (spT C R_after)) (c_accept : CalM P w K mg base C CX0 1 "accept" (spT C R_accept)) (c_least_finish : Cal P w K mg base 6 "least_finish" R_least_finish) (D : DefM K C "perform" "Trip.perform" s_Trip_perform) :
    CalM P w K mg base C CX0 7 "perform" (spEd C fun e _ ds => ds = [e]) :=
  calM_of ["self", "edit"] D (fun _ _ _ _ _ _ us hl => match us, hl with | [_, _], _ => rfl) fun f fd Fn => by
    have sc := sc_Trip_perform
    refine Fn.ok sc (fun vs H Q E h => ?_) (fun cdv A outer s H vs Q E hr h => ?_)
    · obtain ⟨B, t, ls, lf, le, sts, fins, eds, ws, ds, _, _, rfl, ra, wk, rd, bs, ss, ss', e, rfl, _⟩ := h
      rw [List.length_cons, RpAll.len ra]; rfl
    · have hu := hr.units
      obtain ⟨B, t, ls, lf, le, sts, fins, eds, ws, ds, eb, T, rfl, ra, wk, rd, bs, ss, ss', e, rfl, hlast, good, he, z1, z2, z3, q⟩ := h
      refine ⟨_, (pss_cons (ps_if (pt_cmpR op_ge (u_len G (pa_cons (pe_fld (pv 0) rfl) pa_nil)) (u_gint G.MAX_EDITS) (nomark _)) (pss_one ps_dead) pss_nil)
      (pss_cons (ps_asg (pe_cm c_state_after tc.cls pass0 hr (by decide) (pv 0) (pa_cons (pv 1) pa_nil)) (pg_tup (by rfl) (pgs_cons (pg_name (i := 2) sc.nd rfl (Or.inl rfl)) (pgs_cons (pg_name (i := 3) sc.nd rfl (Or.inl rfl)) pgs_nil))))
      (pss_cons (ps_set (i := 4) sc.nd rfl (Or.inl rfl) (C8.pe_c c_least_finish hr (by decide) (by rfl) (pa_cons (pv 2) (pa_cons (pv 3) pa_nil))))
      (pss_cons (ps_expr (pe_cm c_accept tc.cls pass0 hr (by decide) (pv 0) (pa_cons (pv 4) pa_nil)))
      (pss_cons (ps_expr (pe_bm PySem.F.plainAttrs_list PySem.F.slot_list_append PySem.F.type_list_append mt_append (pe_fld (pv 0) rfl) (pa_cons (pe_tup (pa_cons (pv 2) (pa_cons (pv 3) pa_nil))) pa_nil)))
      (pss_cons (ps_expr (pe_bm PySem.F.plainAttrs_list PySem.F.slot_list_append PySem.F.type_list_append mt_append (pe_fld (pv 0) rfl) (pa_cons (pv 4) pa_nil)))
      (pss_cons (ps_expr (pe_bm PySem.F.plainAttrs_list PySem.F.slot_list_append PySem.F.type_list_append mt_append (pe_fld (pv 0) rfl) (pa_cons (pv 1) pa_nil)))
      (pss_one (ps_ret (u_len G (pa_cons (pe_fld (pv 0) rfl) pa_nil))))))))))), ?_⟩
      have hn1 : (tfs ls lf le).lookup ("state_after" : Str) = none := rfl
      have hn2 : (tfs ls lf le).lookup ("accept" : Str) = none := rfl
      have E0 : Env H B H (L2.start n_Trip_perform (.ref t :: ws)) (startT n_Trip_perform t [e]) := env_startT ra
      refine RunE.then (F := FT C t ls lf le sts fins eds) T (.rfl' eb) E0 (r_if (b := false) ((t_test (e_cmp (p := fun i j => decide (i ≥ j)) (c_tlen (fun _ _ h => h.ed) (a_cons (e_fld tc.cls tc.e (fun _ _ h => h) (e_var rfl) rfl) a_nil)) e_int)).is (by simp; omega)) (fun h => nomatch h) fun _ => r_next rfl) fun B1 H1 σ1 g1 x1 E1 => ?_
      refine RunE.then (F := FT C t ls lf le sts fins eds) T g1 E1 (r_asgT (js := [2, 3]) (e_meth (fun _ _ h => h) hn1 (e_var rfl) (a_cons (e_var rfl) a_nil) (R_after.mk _ _ _ (roadD wk rd bs) e ss ss' hlast he)) (g_tup (gs_cons g_name (gs_cons g_name gs_nil))) rfl) fun B2 H2 σ2 g2 x2 E2 => ?_
      refine RunE.then (F := FT C t ls lf le sts fins eds) T g2 E2 (r_asg (e_c (R_least_finish.mk wk rd bs ss' good) (a_cons (e_var rfl) (a_cons (e_var rfl) a_nil))) rfl rfl) fun B3 H3 σ3 g3 x3 E3 => ?_
      refine RunE.then (F := FT C t ls lf le sts fins eds) T g3 E3 (r_drop (e_meth (ds := [.int (finishOf wk rd bs ss')]) (fun _ _ h => h) hn2 (e_var rfl) (a_cons (e_var rfl) a_nil) (R_accept.mk _ _ _ _)) rfl) fun B4 H4 σ4 g4 x4 E4 => ?_
      have T4 := T.mono g4
      have E5 : Env H4 B4 H4 σ4 [.v (.ref t), .d e, .d (roadD wk rd bs), .d (intsD ss'), .d (.int (finishOf wk rd bs ss'))] := E4.flat rfl
      refine cps_app (F := FT C t ls lf le sts fins eds) T4 g4.bh E5 (e_fld tc.cls tc.s (fun _ _ h => h) (e_var rfl) rfl) (e_tup (ds := [roadD wk rd bs, intsD ss']) (a_cons (e_var rfl) (a_cons (e_var rfl) a_nil)) (by simp)) T4.st (by omega) fun v vs B6 H6 g6 hl6 ra6 rv6 => ?_
      have m6 : GrowM (Lists ls lf le) B4 H4 B6 (upd H6 ls (.lst (vs ++ [v]))) := g6.toM.trans (.mut g6.bh (.inl rfl) (T4.mono g6).bs hl6)
      have T6 := (T4.mono g6).setS (RpAll.append ra6 (dpa_one rv6))
      have E6 := E5.flatB (H0' := upd H6 ls (.lst (vs ++ [v]))) (H' := upd H6 ls (.lst (vs ++ [v]))) rfl g6.bb
      refine cps_app (F := FT C t ls lf le _ fins eds) T6 m6.bh E6 (e_fld tc.cls tc.f (fun _ _ h => h) (e_var rfl) rfl) (d := .int (finishOf wk rd bs ss')) (e_var rfl) T6.fi (by omega) fun v7 vs7 B7 H7 g7 hl7 ra7 rv7 => ?_
      have m7 := m6.trans (g7.toM.trans (.mut (o := .lst (vs7 ++ [v7])) g7.bh (.inr (.inl rfl)) (T6.mono g7).bf hl7))
      have T7 := (T6.mono g7).setF (RpAll.append ra7 (dpa_one rv7))
      have E7 := E6.flatB (H0' := upd H7 lf (.lst (vs7 ++ [v7]))) (H' := upd H7 lf (.lst (vs7 ++ [v7]))) rfl g7.bb
      refine cps_app (F := FT C t ls lf le _ _ eds) T7 m7.bh E7 (e_fld tc.cls tc.e (fun _ _ h => h) (e_var rfl) rfl) (d := e) (e_var rfl) T7.ed (by omega) fun v8 vs8 B8 H8 g8 hl8 ra8 rv8 => ?_
      have m8 := m7.trans (g8.toM.trans (.mut (o := .lst (vs8 ++ [v8])) g8.bh (.inr (.inr rfl)) (T7.mono g8).be hl8))
      have T8 := (T7.mono g8).setE (RpAll.append ra8 (dpa_one rv8))
      have E8 := E7.flatB (H0' := upd H8 le (.lst (vs8 ++ [v8]))) (H' := upd H8 le (.lst (vs8 ++ [v8]))) rfl g8.bb
      refine EvE.go (F := FT C t ls lf le _ _ (eds ++ [e])) (c_tlen (fun _ _ h => h.ed) (a_cons (e_fld tc.cls tc.e (fun _ _ h => h) (e_var rfl) rfl) a_nil)) T8 m8.bh E8 fun v9 B9 H9 g9 o9 => ?_
      rw [dp_int o9]
      have := q B9 H9 ((g4.toM.trans m8).trans g9.toM) (T8.mono g9)
      rw [List.length_append]
      exact this
abbrev s_Trip_come : Stmt := inClass (top 69) 14
abbrev n_Trip_come : List Str := ["self", "start"]
theorem sc_Trip_come : FnScope n_Trip_come ["self", "start"] (defScope s_Trip_come) := ⟨rfl, rfl, rfl, by decide +kernel, rfl, by decide +kernel, by decide +kernel⟩
theorem f_Trip_come (G : Gs K mg) (tc : TripC K C) (c_require_idle : CalM P w K mg base C CX0 1 "require_idle" (spT C R_idle)) (c_perform : CalM P w K mg base C CX0 7 "perform" (spEd C fun e _ ds => ds = [e])) (D : DefM K C "come" "Trip.come" s_Trip_come) :
    CalM P w K mg base C CX0 8 "come" (spEd C fun e _ ds => ∃ x, ds = [x] ∧ e = .tuple [.str "come", x]) :=
  calM_of ["self", "start"] D (fun _ _ _ _ _ _ us hl => match us, hl with | [_, _], _ => rfl) fun f fd Fn => by
    have sc := sc_Trip_come
    refine Fn.ok sc (fun vs H Q E h => ?_) (fun cdv A outer s H vs Q E hr h => ?_)
    · obtain ⟨B, t, ls, lf, le, sts, fins, eds, ws, ds, _, _, rfl, ra, wk, rd, bs, ss, ss', e, ⟨x, rfl, _⟩, _⟩ := h
      rw [List.length_cons, RpAll.len ra]; rfl
    · obtain ⟨B, t, ls, lf, le, sts, fins, eds, ws, ds, eb, T, rfl, ra, wk, rd, bs, ss, ss', e, ⟨x, rfl, rfl⟩, hlast, good, he, z1, z2, z3, q⟩ := h
      refine ⟨_, (pss_cons (ps_expr (pe_cm0 c_require_idle tc.cls pass0 hr (by decide) (pv 0)))
      (pss_one (ps_ret (pe_cm c_perform tc.cls pass0 hr (by decide) (pv 0) (pa_cons (pe_tup (pa_cons pe_str (pa_cons (pv 1) pa_nil))) pa_nil))))), ?_⟩
      have hn1 : (tfs ls lf le).lookup ("require_idle" : Str) = none := rfl
      have hn2 : (tfs ls lf le).lookup ("perform" : Str) = none := rfl
      have E0 : Env H B H (L2.start n_Trip_come (.ref t :: ws)) (startT n_Trip_come t [x]) := env_startT ra
      refine RunE.then (F := FT C t ls lf le sts fins eds) T (.rfl' eb) E0 (r_drop (e_meth (ds := []) (fun _ _ h => h) hn1 (e_var rfl) a_nil (R_idle.mk _ _ _)) rfl) fun B1 H1 σ1 g1 x1 E1 => ?_
      have T1 := T.mono g1
      have E2 : Env H1 B1 H1 σ1 [.v (.ref t), .d x] := E1.flat rfl
      rcases E2.at_ 0 (.v (.ref t)) rfl with z | ⟨v2, hv, o2⟩
      · cases z
      obtain rfl : v2 = .ref t := o2
      obtain ⟨dx, ei⟩ := T1.ins
      refine ⟨.ref t, hv, t, dx, _, rfl, ei, hn2, ?_⟩
      refine (a_cons (e_tup (ds := [.str "come", x]) (a_cons e_str (a_cons (e_var rfl) a_nil)) (by simp)) a_nil : EvA (FT C t ls lf le sts fins eds) _ [.v (.ref t), .d x] _) H1 B1 B1 H1 σ1 T1 (.rfl' g1.bh) E2 _ fun vs3 B3 H3 g3 o3 => ?_
      rw [List.append_nil]
      refine ⟨B3, t, ls, lf, le, sts, fins, eds, vs3, [.tuple [.str "come", x]], g3.bh, T1.mono g3, rfl, OkAll.rp o3, wk, rd, bs, ss, ss', _, rfl, hlast, good, he, z1, z2, z3, fun B' H' m T' => ?_⟩
      exact q B' H' (((g1.trans g3).toM).trans m) T'
abbrev s_Trip_leave : Stmt := inClass (top 69) 15
abbrev n_Trip_leave : List Str := ["self", "person"]
theorem sc_Trip_leave : FnScope n_Trip_leave ["self", "person"] (defScope s_Trip_leave) := ⟨rfl, rfl, rfl, by decide +kernel, rfl, by decide +kernel, by decide +kernel⟩
theorem f_Trip_leave (G : Gs K mg) (tc : TripC K C) (c_require_idle : CalM P w K mg base C CX0 1 "require_idle" (spT C R_idle)) (c_perform : CalM P w K mg base C CX0 7 "perform" (spEd C fun e _ ds => ds = [e])) (D : DefM K C "leave" "Trip.leave" s_Trip_leave) :
    CalM P w K mg base C CX0 8 "leave" (spEd C fun e _ ds => ∃ x, ds = [x] ∧ e = .tuple [.str "leave", x]) :=
  calM_of ["self", "person"] D (fun _ _ _ _ _ _ us hl => match us, hl with | [_, _], _ => rfl) fun f fd Fn => by
    have sc := sc_Trip_leave
    refine Fn.ok sc (fun vs H Q E h => ?_) (fun cdv A outer s H vs Q E hr h => ?_)
    · obtain ⟨B, t, ls, lf, le, sts, fins, eds, ws, ds, _, _, rfl, ra, wk, rd, bs, ss, ss', e, ⟨x, rfl, _⟩, _⟩ := h
      rw [List.length_cons, RpAll.len ra]; rfl
    · obtain ⟨B, t, ls, lf, le, sts, fins, eds, ws, ds, eb, T, rfl, ra, wk, rd, bs, ss, ss', e, ⟨x, rfl, rfl⟩, hlast, good, he, z1, z2, z3, q⟩ := h
      refine ⟨_, (pss_cons (ps_expr (pe_cm0 c_require_idle tc.cls pass0 hr (by decide) (pv 0)))
      (pss_one (ps_ret (pe_cm c_perform tc.cls pass0 hr (by decide) (pv 0) (pa_cons (pe_tup (pa_cons pe_str (pa_cons (pv 1) pa_nil))) pa_nil))))), ?_⟩
      have hn1 : (tfs ls lf le).lookup ("require_idle" : Str) = none := rfl
      have hn2 : (tfs ls lf le).lookup ("perform" : Str) = none := rfl
      have E0 : Env H B H (L2.start n_Trip_leave (.ref t :: ws)) (startT n_Trip_leave t [x]) := env_startT ra
      refine RunE.then (F := FT C t ls lf le sts fins eds) T (.rfl' eb) E0 (r_drop (e_meth (ds := []) (fun _ _ h => h) hn1 (e_var rfl) a_nil (R_idle.mk _ _ _)) rfl) fun B1 H1 σ1 g1 x1 E1 => ?_
      have T1 := T.mono g1
      have E2 : Env H1 B1 H1 σ1 [.v (.ref t), .d x] := E1.flat rfl
      rcases E2.at_ 0 (.v (.ref t)) rfl with z | ⟨v2, hv, o2⟩
      · cases z
      obtain rfl : v2 = .ref t := o2
      obtain ⟨dx, ei⟩ := T1.ins
      refine ⟨.ref t, hv, t, dx, _, rfl, ei, hn2, ?_⟩
      refine (a_cons (e_tup (ds := [.str "leave", x]) (a_cons e_str (a_cons (e_var rfl) a_nil)) (by simp)) a_nil : EvA (FT C t ls lf le sts fins eds) _ [.v (.ref t), .d x] _) H1 B1 B1 H1 σ1 T1 (.rfl' g1.bh) E2 _ fun vs3 B3 H3 g3 o3 => ?_
      rw [List.append_nil]
      refine ⟨B3, t, ls, lf, le, sts, fins, eds, vs3, [.tuple [.str "leave", x]], g3.bh, T1.mono g3, rfl, OkAll.rp o3, wk, rd, bs, ss, ss', _, rfl, hlast, good, he, z1, z2, z3, fun B' H' m T' => ?_⟩
      exact q B' H' (((g1.trans g3).toM).trans m) T'
end
end K45
-- BG
set_option maxHeartbeats 4000000
namespace K45
open PySem PySem.Spec PyProof.Rows L2
open Evl (Ex ex_rd ex_l ex_t)
/-! ### small rules -/
theorem EvT.go {F : Fx} {tt : TT} {L : List Sl} {b : Bool} (h : EvT F tt L b) {B H : Hp} {σ : St} (f : F H B) (eb : Ex B H) (E : Env H B H σ L) {Q : Bool → Hp → Prop} (q : ∀ B' H', Grow B H B' H' → Q b H') : tt σ H Q := h H B B H σ f (.rfl' eb) E Q q
/-- self.f = a new list -/
theorem cps_fldM {K : PySem.W.Frag} {F : Fx} {L : List Sl} {te : TE} {C t dx : Addr} {fs : List (Str × V)} {f : Str} {xs : List PyData} {i : Nat} {B H : Hp} {σ : St} {D : Ends} (f0 : F H B) (eb : Ex B H) (E : Env H B H σ L) (h : EvM F te L xs) (hv : L[i]? = some (.v (.ref t))) (ht : H t = some (.ins C dx fs)) (cc : Cls K C) (n : NoAttr K C f) (hz : fs.length < 1000)
    (q : ∀ l vs B' H', Grow B H B' H' → H l = none → B' l = none → H' l = some (.lst vs) → RpAll B' vs xs → D.nx σ (upd H' t (.ins C dx (putF f (.ref l) fs)))) : sFld K (tVar i) te f D σ H :=
  h H B B H σ f0 (.rfl' eb) E _ fun l vs B1 H1 g1 hl bl el ra => by
    rcases E.at_ i _ hv with z | ⟨v, e, o⟩
    · cases z
    · obtain rfl : v = .ref t := o
      exact ⟨.ref t, e, t, C, dx, fs, rfl, g1.hh _ _ ht, cc, n, hz, q l vs B1 H1 g1 hl bl el ra⟩
theorem cps_fldV {K : PySem.W.Frag} {F : Fx} {L : List Sl} {te : TE} {C t dx : Addr} {fs : List (Str × V)} {f : Str} {y : V} {i : Nat} {B H : Hp} {σ : St} {D : Ends} (f0 : F H B) (eb : Ex B H) (E : Env H B H σ L) (h : EvE F te L (.v y)) (hv : L[i]? = some (.v (.ref t))) (ht : H t = some (.ins C dx fs)) (cc : Cls K C) (n : NoAttr K C f) (hz : fs.length < 1000)
    (q : ∀ B' H', Grow B H B' H' → D.nx σ (upd H' t (.ins C dx (putF f y fs)))) : sFld K (tVar i) te f D σ H :=
  h H B B H σ f0 (.rfl' eb) E _ fun v1 B1 H1 g1 o1 => by
    obtain rfl : v1 = y := o1
    rcases E.at_ i _ hv with z | ⟨v, e, o⟩
    · cases z
    · obtain rfl : v = .ref t := o
      exact ⟨.ref t, e, t, C, dx, fs, rfl, g1.hh _ _ ht, cc, n, hz, q B1 H1 g1⟩
theorem put1 (a : V) : putF "states" a [] = [(("states" : Str), a)] := rfl
theorem put2 (a b : V) : putF "finishes" b [(("states" : Str), a)] = [(("states" : Str), a), (("finishes" : Str), b)] := rfl
theorem put3 (a b c : V) : putF "standing" c [(("states" : Str), a), (("finishes" : Str), b)] = [(("states" : Str), a), (("finishes" : Str), b), (("standing" : Str), c)] := rfl
theorem put4 (a b c d : V) : putF "watching" d [(("states" : Str), a), (("finishes" : Str), b), (("standing" : Str), c)] = [(("states" : Str), a), (("finishes" : Str), b), (("standing" : Str), c), (("watching" : Str), d)] := rfl
/-! ### cls(e, ..), cls a slot that holds a class -/
def tMakeL (i : Nat) (C : Addr) (sp : Sp) (E : XK) (t : TA) : TE := fun σ H Q => σ[i]? = some (some (.ref C)) ∧ tMake C sp [] E t σ H Q
theorem pe_makeL {X : Cx} {CX : CXT} {k i : Nat} {f C : Addr} {fd : FuncData} {ps : List Str} {sp : Sp} {E : XK} {x : Str} {p pos : Pos} {e : Expr} {es : List Expr} {t : TA} (M : Mk X.K C f) (F : FnOk X.prog X.w X.K X.mg X.base CX k f fd ps sp) (hr : Room (k + 1) X.A) (hb : Binds X.K fd ps []) (hx : Passes CX X E) (hN : X.N[i]? = some x) (hv : Vis X.env.scope x)
    (ha : PA X (e :: es) t) (hdb : (x == ("__debug__" : Str)) = false := by decide) (hcd : (x == ("__classdict__" : Str)) = false := by decide)
    (he : starEach (e :: es) X.env = (false, eval e X.env) :: starEach es X.env := by rfl) (hpl : (backTo pos (starEach es X.env)).any (·.1) = false := by rfl) :
    PE X (.Call (.Name x p) (e :: es) [] pos) (tMakeL i C sp E t) := by
  refine ⟨fun pins s σ H Q I h => ?_⟩
  obtain ⟨hs, ht⟩ := h
  refine wpAny_Call_Name_kw (thn ((pe_var (pos := p) hN hv hdb hcd).run pins s σ H (fun v H1 => v = .ref C ∧ H1 = H) I ⟨.ref C, hs, rfl, rfl⟩) fun u s1 ⟨v, H1, I1, r1, q1⟩ => ?_)
  obtain ⟨rfl, rfl⟩ := q1
  cases r1
  refine PySem.W.callWith_K (h₀ := X.base) I.ok.mod.kin M.kp (thn (ha.run pos pins s1 σ _ _ I1 ht) fun us s2 ⟨vs, H2, I2, r, q⟩ => ⟨I2.kIn, ?_⟩) he hpl
  exact run_make M F hr hb .nil hx I2 r q
/-! ### an own error class without __init__ -/
structure Own0 (K : PySem.W.Frag) (mg : Str → Option Value) (x : Str) (C : Addr) : Prop where
  gC : mg x = some (.ref C)
  ex : PySem.W.excIn K C [.type "ValueError", .type "Exception", .type "BaseException", .type "object"] "ValueError.__new__" = true
  kp : PySem.W.keepIn K (.ref C) = true
  sb : PySem.W.subIn K (.ref C) (.type "BaseException") = some true
  ty : PySem.W.typeIn K (.ref C) = some (.type "type")
theorem ps_own0 {X : Cx} {C : Addr} {x : Str} {W : WX} {p pos pos2 : Pos} (o : Own0 X.K X.mg x C) (hc : X.calm = true) (tk : Takes X W) (hg : Gl X x) (hdb : (x == ("__debug__" : Str)) = false := by decide) :
    PS X (.Raise (some (.Call (.Name x p) [] [] pos)) none pos2) (fun _ σ H => W (.ref C) none σ H) := ps_raise hc tk (pmk_own0 PySem.F.excBase_ValueError o.ex o.gC o.kp (raises_own o.sb o.ty) hg hdb)
section
variable {P : Program} {w : World} {K : PySem.W.Frag} {mg : Str → Option Value} {base : Heap} {C : Addr}
/-! ### undo -/
def spUn (C N : Addr) : Sp := fun vs H Q E => ∃ B t ls lf le sts fins eds, Ex B H ∧ TripS C B H t ls lf le sts fins eds ∧ vs = [.ref t] ∧
  ((eds = [] ∧ ∀ H', Ex H H' → E (.ref N) none H') ∨ (eds ≠ [] ∧ sts ≠ [] ∧ fins ≠ [] ∧ ∀ B' H', GrowM (Lists ls lf le) B H B' H' → TripS C B' H' t ls lf le sts.dropLast fins.dropLast eds.dropLast → Q (.int (eds.length - 1 : Nat)) H'))
abbrev s_Trip_undo : Stmt := inClass (top 69) 18
abbrev n_Trip_undo : List Str := ["self"]
theorem sc_Trip_undo : FnScope n_Trip_undo ["self"] (defScope s_Trip_undo) := ⟨rfl, rfl, rfl, by decide +kernel, rfl, by decide +kernel, by decide +kernel⟩
theorem f_Trip_undo {N : Addr} (G : Gs K mg) (tc : TripC K C) (oN : Own0 K mg "NothingToUndo" N) (c_require_idle : CalM P w K mg base C CX0 1 "require_idle" (spT C R_idle)) (D : DefM K C "undo" "Trip.undo" s_Trip_undo) :
    CalM P w K mg base C (L2.CX P w) 2 "undo" (spUn C N) :=
  calM_of ["self"] D (fun _ _ _ _ _ _ us hl => match us, hl with | [_], _ => rfl) fun f fd Fn => by
    have sc := sc_Trip_undo
    refine Fn.okX sc (fun vs H Q E h => ?_) (fun cdv A outer s H vs Q E hr h => ?_)
    · obtain ⟨B, t, ls, lf, le, sts, fins, eds, _, _, rfl, _⟩ := h
      rfl
    · have hu := hr.units
      obtain ⟨B, t, ls, lf, le, sts, fins, eds, eb, T, rfl, q⟩ := h
      refine ⟨_, (pss_cons (ps_expr (pe_cm0 c_require_idle tc.cls pass0 hr (by decide) (pv 0)))
      (pss_cons (ps_if (pt_cmpR (kx_eq G hu) (u_len G (pa_cons (pe_fld (pv 0) rfl) pa_nil)) pe_int (nomark _)) (pss_one (ps_own0 oN rfl (takes_of rfl rfl rfl rfl) rfl)) pss_nil)
      (pss_cons (ps_expr (pe_bm0 PySem.F.plainAttrs_list PySem.F.slot_list_pop PySem.F.type_list_pop mt_pop (pe_fld (pv 0) rfl)))
      (pss_cons (ps_expr (pe_bm0 PySem.F.plainAttrs_list PySem.F.slot_list_pop PySem.F.type_list_pop mt_pop (pe_fld (pv 0) rfl)))
      (pss_cons (ps_expr (pe_bm0 PySem.F.plainAttrs_list PySem.F.slot_list_pop PySem.F.type_list_pop mt_pop (pe_fld (pv 0) rfl)))
      (pss_one (ps_ret (u_len G (pa_cons (pe_fld (pv 0) rfl) pa_nil))))))))), ?_⟩
      have hn1 : (tfs ls lf le).lookup ("require_idle" : Str) = none := rfl
      have E0 : Env H B H (L2.start n_Trip_undo [.ref t]) (startT n_Trip_undo t []) := env_startT .nil
      refine RunE.then (F := FT C t ls lf le sts fins eds) T (.rfl' eb) E0 (r_drop (e_meth (ds := []) (fun _ _ h => h) hn1 (e_var rfl) a_nil (R_idle.mk _ _ _)) rfl) fun B1 H1 σ1 g1 x1 E1 => ?_
      have T1 := T.mono g1
      have E2 : Env H1 B1 H1 σ1 [.v (.ref t)] := E1.flat rfl
      refine EvT.go (F := FT C t ls lf le sts fins eds) (t_test (e_eqI (c_tlen (fun _ _ h => h.ed) (a_cons (e_fld tc.cls tc.e (fun _ _ h => h) (e_var rfl) rfl) a_nil)) e_int)) T1 g1.bh E2 fun B3 H3 g3 => ?_
      have T3 := T1.mono g3
      have E3 : Env H3 B3 H3 σ1 [.v (.ref t)] := (E2.mono g3).flat rfl
      rcases q with ⟨hnil, q⟩ | ⟨n1, n2, n3, q⟩
      · rw [if_pos (by subst hnil; rfl)]
        exact q H3 (g1.trans g3).hh
      · rw [if_neg (by cases eds with | nil => exact absurd rfl n1 | cons a l => simp; omega)]
        refine cps_pop (F := FT C t ls lf le sts fins eds) T3 g3.bh E3 (e_fld tc.cls tc.e (fun _ _ h => h) (e_var rfl) rfl) T3.ed n1 fun vs4 B4 H4 g4 hl4 ra4 => ?_
        have m4 : GrowM (Lists ls lf le) B H B4 (upd H4 le (.lst vs4.dropLast)) := ((g1.trans g3).trans g4).toM.trans (.mut g4.bh (.inr (.inr rfl)) (T3.mono g4).be hl4)
        have T4 := (T3.mono g4).setE ra4.dropLast
        have E4 := E3.flatB (H0' := upd H4 le (.lst vs4.dropLast)) (H' := upd H4 le (.lst vs4.dropLast)) rfl g4.bb
        refine cps_pop (F := FT C t ls lf le sts fins _) T4 m4.bh E4 (e_fld tc.cls tc.s (fun _ _ h => h) (e_var rfl) rfl) T4.st n2 fun vs5 B5 H5 g5 hl5 ra5 => ?_
        have m5 := m4.trans (g5.toM.trans (.mut (o := .lst vs5.dropLast) g5.bh (.inl rfl) (T4.mono g5).bs hl5))
        have T5 := (T4.mono g5).setS ra5.dropLast
        have E5 := E4.flatB (H0' := upd H5 ls (.lst vs5.dropLast)) (H' := upd H5 ls (.lst vs5.dropLast)) rfl g5.bb
        refine cps_pop (F := FT C t ls lf le _ fins _) T5 m5.bh E5 (e_fld tc.cls tc.f (fun _ _ h => h) (e_var rfl) rfl) T5.fi n3 fun vs6 B6 H6 g6 hl6 ra6 => ?_
        have m6 := m5.trans (g6.toM.trans (.mut (o := .lst vs6.dropLast) g6.bh (.inr (.inl rfl)) (T5.mono g6).bf hl6))
        have T6 := (T5.mono g6).setF ra6.dropLast
        have E6 := E5.flatB (H0' := upd H6 lf (.lst vs6.dropLast)) (H' := upd H6 lf (.lst vs6.dropLast)) rfl g6.bb
        refine EvE.go (F := FT C t ls lf le _ _ eds.dropLast) (c_tlen (fun _ _ h => h.ed) (a_cons (e_fld tc.cls tc.e (fun _ _ h => h) (e_var rfl) rfl) a_nil)) T6 m6.bh E6 fun v9 B9 H9 g9 o9 => ?_
        rw [dp_int o9]
        have := q B9 H9 (m6.trans g9.toM) (T6.mono g9)
        rw [List.length_dropLast]
        exact this
/-! ### __init__ -/
def spIn (C : Addr) : Sp := fun vs H Q _ => ∃ B t dx vs2 w r bs ss, Ex B H ∧ B t = none ∧ H t = some (.ins C dx []) ∧ vs = .ref t :: vs2 ∧ RpAll B vs2 [roadD w r bs, intsD ss] ∧ Good w r bs ss ∧
  ∀ B' H' ls lf le, GrowM (· = t) B H B' H' → TripS C B' H' t ls lf le [.tuple [roadD w r bs, intsD ss]] [.int (finishOf w r bs ss)] [] → H ls = none → H lf = none → H le = none → Q .non H'
abbrev s_Trip___init__ : Stmt := inClass (top 69) 1
abbrev n_Trip___init__ : List Str := ["self", "road", "starts", "error"]
theorem sc_Trip___init__ : FnScope n_Trip___init__ ["self", "road", "starts"] (defScope s_Trip___init__) := ⟨rfl, rfl, rfl, by decide +kernel, rfl, by decide +kernel, by decide +kernel⟩
theorem good_road {w r : Int} {bs ss : List Int} (g : Good w r bs ss) : okRoad w r bs = true := by
  unfold okRoad
  rw [g.wr, Bool.true_and, decide_eq_true g.lb, Bool.true_and, List.all_eq_true]
  intro b hb
  have := g.b b hb
  unfold okBike
  simp; omega
theorem good_starts {w r : Int} {bs ss : List Int} (g : Good w r bs ss) : okStarts ss = true := by
  unfold okStarts
  rw [decide_eq_true g.ls, Bool.true_and, List.all_eq_true]
  intro b hb
  have := g.s b hb
  unfold okStart
  simp; omega
theorem f_Trip_init (G : Gs K mg) (tc : TripC K C) (c_road_error : Cal P w K mg base 3 "road_error" R_road_error) (c_are_starts : Cal P w K mg base 2 "are_starts" R_are_starts) (c_least_finish : Cal P w K mg base 6 "least_finish" R_least_finish)
    {f : Addr} {fd : FuncData} (Fn : Fun K "__init__" "Trip.__init__" s_Trip___init__ f fd) : FnOk P w K mg base CX0 7 f fd ["self", "road", "starts"] (spIn C) := by
  have sc := sc_Trip___init__
  refine Fn.ok sc (fun vs H Q E h => ?_) (fun cdv A outer s H vs Q E hr h => ?_)
  · obtain ⟨B, t, dx, vs2, w', r, bs, ss, _, _, _, rfl, ra, _⟩ := h
    rw [List.length_cons, RpAll.len ra]; rfl
  have hu := hr.units
  obtain ⟨B, t, dx, vs2, wk, rd, bs, ss, eb, bt, ht, rfl, ra, good, q⟩ := h
  refine ⟨_, (pss_cons (ps_set (i := 3) sc.nd rfl (Or.inl rfl) (C8.pe_c c_road_error hr (by decide) (by rfl) (pa_cons (pv 1) pa_nil)))
      (pss_cons (ps_if (pt_cmp (pc_notN (pv 3)) (by rfl)) (pss_one ps_dead) pss_nil)
      (pss_cons (ps_if (pt_not (pt_val (C8.pe_c c_are_starts hr (by decide) (by rfl) (pa_cons (pv 2) pa_nil)))) (pss_one ps_dead) pss_nil)
      (pss_cons (ps_fld (pv 0) (pe_lst (pa_cons (pe_tup (pa_cons (pv 1) (pa_cons (pv 2) pa_nil))) pa_nil)) (by rfl))
      (pss_cons (ps_fld (pv 0) (pe_lst (pa_cons (C8.pe_c c_least_finish hr (by decide) (by rfl) (pa_cons (pv 1) (pa_cons (pv 2) pa_nil))) pa_nil)) (by rfl))
      (pss_cons (ps_fld (pv 0) (pe_lst pa_nil) (by rfl))
      (pss_one (ps_fld (pv 0) pe_bl (by rfl))))))))), ?_⟩
  have E0 : Env H B H (L2.start n_Trip___init__ (.ref t :: vs2)) (startT n_Trip___init__ t [roadD wk rd bs, intsD ss]) := env_startT ra
  have hno : isNo (roadErr wk rd bs) = true := by rw [roadErr_no]; exact good_road good
  refine RunE.then (F := fun _ _ => True) trivial (.rfl' eb) E0 (r_asg (e_c (R_road_error.mk wk rd bs) (a_cons (e_var rfl) a_nil)) rfl rfl) fun B1 H1 σ1 g1 x1 E1 => ?_
  refine RunE.then (F := fun _ _ => True) (M := [.v (.ref t), .d (roadD wk rd bs), .d (intsD ss), .d (roadErr wk rd bs)]) trivial g1 E1 (r_if (b := false) ((t_test (e_notN (e_var rfl))).is (by rw [hno]; rfl)) (fun h => nomatch h) fun _ => r_next rfl) fun B2 H2 σ2 g2 x2 E2 => ?_
  refine RunE.then (F := fun _ _ => True) (M := [.v (.ref t), .d (roadD wk rd bs), .d (intsD ss), .d (roadErr wk rd bs)]) trivial g2 E2 (r_if (b := false) ((t_not (t_test (e_c (R_are_starts.mk ss) (a_cons (e_var rfl) a_nil)))).is (by rw [good_starts good]; rfl)) (fun h => nomatch h) fun _ => r_next rfl) fun B3 H3 σ3 g3 x3 E3 => ?_
  have E4 : Env H3 B3 H3 σ3 [.v (.ref t), .d (roadD wk rd bs), .d (intsD ss), .d (roadErr wk rd bs)] := E3.flat rfl
  have bt3 : B3 t = none := g3.nw _ _ ht bt
  refine cps_fldM (F := fun _ _ => True) trivial g3.bh E4 (m_lst (ds := [.tuple [roadD wk rd bs, intsD ss]]) (a_cons (e_tup (ds := [roadD wk rd bs, intsD ss]) (a_cons (e_var rfl) (a_cons (e_var rfl) a_nil)) (by simp)) a_nil) (by simp)) rfl (g3.hh _ _ ht) tc.cls tc.s (by simp) fun ls sv B5 H5 g5 hls5 bls5 els5 rs5 => ?_
  rw [put1]
  have ht5 := (g3.trans g5).hh _ _ ht
  have bt5 : B5 t = none := (g3.trans g5).nw _ _ ht bt
  have m5 : GrowM (· = t) B H B5 (upd H5 t (.ins C dx [(("states" : Str), .ref ls)])) := (g3.trans g5).toM.trans (.mut g5.bh rfl bt5 ht5)
  have E5 := E4.flatB (H0' := upd H5 t (.ins C dx [(("states" : Str), .ref ls)])) (H' := upd H5 t (.ins C dx [(("states" : Str), .ref ls)])) rfl g5.bb
  have ls_t : ls ≠ t := fun z => by rw [z, g3.hh _ _ ht] at hls5; cases hls5
  refine cps_fldM (F := fun _ _ => True) trivial m5.bh E5 (m_lst (ds := [.int (finishOf wk rd bs ss)]) (a_cons (e_c (R_least_finish.mk wk rd bs ss good) (a_cons (e_var rfl) (a_cons (e_var rfl) a_nil))) a_nil) (by simp)) rfl upd_same tc.cls tc.f (by simp) fun lf fv B6 H6 g6 hlf6 blf6 elf6 rf6 => ?_
  rw [put2]
  have lf_t : lf ≠ t := fun z => by rw [z, upd_same] at hlf6; cases hlf6
  have hlf5 : H5 lf = none := by rw [upd_ne lf_t] at hlf6; exact hlf6
  have ls_lf : ls ≠ lf := fun z => by rw [← z, els5] at hlf5; cases hlf5
  have ht6 : H6 t = some (.ins C dx [(("states" : Str), .ref ls)]) := g6.hh _ _ upd_same
  have els6 : H6 ls = some (.lst sv) := g6.hh _ _ (by rw [upd_ne ls_t]; exact els5)
  have bt6 : B6 t = none := g6.nw _ _ upd_same bt5
  have bls6 : B6 ls = none := g6.nw _ _ (by rw [upd_ne ls_t]; exact els5) bls5
  have m6 := m5.trans (g6.toM.trans (.mut (o := .ins C dx [(("states" : Str), .ref ls), (("finishes" : Str), .ref lf)]) g6.bh rfl bt6 ht6))
  have E6 := E5.flatB (H0' := upd H6 t (.ins C dx [(("states" : Str), .ref ls), (("finishes" : Str), .ref lf)])) (H' := upd H6 t (.ins C dx [(("states" : Str), .ref ls), (("finishes" : Str), .ref lf)])) rfl g6.bb
  refine cps_fldM (F := fun _ _ => True) trivial m6.bh E6 (m_lst (ds := []) a_nil (by simp)) rfl upd_same tc.cls tc.e (by simp) fun le ev B7 H7 g7 hle7 ble7 ele7 re7 => ?_
  rw [put3]
  have le_t : le ≠ t := fun z => by rw [z, upd_same] at hle7; cases hle7
  have hle6 : H6 le = none := by rw [upd_ne le_t] at hle7; exact hle7
  have ls_le : ls ≠ le := fun z => by rw [← z, els6] at hle6; cases hle6
  have lf_le : lf ≠ le := fun z => by rw [← z, elf6] at hle6; cases hle6
  have ht7 : H7 t = some (.ins C dx [(("states" : Str), .ref ls), (("finishes" : Str), .ref lf)]) := g7.hh _ _ upd_same
  have els7 : H7 ls = some (.lst sv) := g7.hh _ _ (by rw [upd_ne ls_t]; exact els6)
  have elf7 : H7 lf = some (.lst fv) := g7.hh _ _ (by rw [upd_ne lf_t]; exact elf6)
  have bt7 : B7 t = none := g7.nw _ _ upd_same bt6
  have bls7 : B7 ls = none := g7.nw _ _ (by rw [upd_ne ls_t]; exact els6) bls6
  have blf7 : B7 lf = none := g7.nw _ _ (by rw [upd_ne lf_t]; exact elf6) blf6
  have m7 := m6.trans (g7.toM.trans (.mut (o := .ins C dx [(("states" : Str), .ref ls), (("finishes" : Str), .ref lf), (("standing" : Str), .ref le)]) g7.bh rfl bt7 ht7))
  have E7 := E6.flatB (H0' := upd H7 t (.ins C dx [(("states" : Str), .ref ls), (("finishes" : Str), .ref lf), (("standing" : Str), .ref le)])) (H' := upd H7 t (.ins C dx [(("states" : Str), .ref ls), (("finishes" : Str), .ref lf), (("standing" : Str), .ref le)])) rfl g7.bb
  refine cps_fldV (F := fun _ _ => True) trivial m7.bh E7 e_val rfl upd_same tc.cls tc.w (by simp) fun B8 H8 g8 => ?_
  rw [put4]
  have ht8 : H8 t = some (.ins C dx [(("states" : Str), .ref ls), (("finishes" : Str), .ref lf), (("standing" : Str), .ref le)]) := g8.hh _ _ upd_same
  have els8 : H8 ls = some (.lst sv) := g8.hh _ _ (by rw [upd_ne ls_t]; exact els7)
  have elf8 : H8 lf = some (.lst fv) := g8.hh _ _ (by rw [upd_ne lf_t]; exact elf7)
  have ele8 : H8 le = some (.lst ev) := g8.hh _ _ (by rw [upd_ne le_t]; exact ele7)
  have bt8 : B8 t = none := g8.nw _ _ upd_same bt7
  have m8 := m7.trans (g8.toM.trans (.mut (o := .ins C dx (tfs ls lf le)) g8.bh rfl bt8 ht8))
  refine q B8 _ ls lf le m8 ?_ (ex_none g3.hh hls5) (ex_none ((g3.trans g5).hh) hlf5) (m6.dom _ (by rw [upd_ne le_t]; exact hle6))
  exact {
    ins := ⟨dx, upd_same⟩
    st := ⟨sv, by rw [upd_ne ls_t]; exact els8, dpa_mono ((g6.bb.trans g7.bb).trans g8.bb) rs5⟩
    fi := ⟨fv, by rw [upd_ne lf_t]; exact elf8, dpa_mono (g7.bb.trans g8.bb) rf6⟩
    ed := ⟨ev, by rw [upd_ne le_t]; exact ele8, dpa_mono g8.bb re7⟩
    bs := g8.nw _ _ (by rw [upd_ne ls_t]; exact els7) bls7
    bf := g8.nw _ _ (by rw [upd_ne lf_t]; exact elf7) blf7
    be := g8.nw _ _ (by rw [upd_ne le_t]; exact ele7) ble7
    sf := ls_lf
    se := ls_le
    fe := lf_le }
end
end K45
-- BH
set_option maxHeartbeats 4000000
namespace K45
open PySem PySem.Spec PyProof.Rows L2
open Evl (Ex ex_rd ex_l ex_t)
theorem cps_seq {tx ty : TS} {D : Ends} {σ : St} {H : Hp} (h : tx { D with nx := ty D } σ H) : tSeq tx ty D σ H := h
theorem cps_callS {F : Fx} {ta : TA} {L ss : List Sl} {sp : Sp} {Ek : St → XK} {g : TG} {B H : Hp} {σ : St} {D : Ends} (h : EvA F ta L ss) (f : F H B) (eb : Ex B H) (E : Env H B H σ L) (q : ∀ vs B' H', Grow B H B' H' → OkAll H B' H' vs ss → sp vs H' (fun x H1 => g x σ H1 D.nx) (Ek σ)) : tAsg (tCallS sp Ek ta) g D σ H :=
  h H B B H σ f (.rfl' eb) E _ q
theorem cps_retMk {F : Fx} {ta : TA} {L ss : List Sl} {sp : Sp} {Ek : XK} {i : Nat} {C : Addr} {B H : Hp} {σ : St} {D : Ends} (hi : L[i]? = some (.v (.ref C))) (h : EvA F ta L ss) (f : F H B) (eb : Ex B H) (E : Env H B H σ L)
    (q : ∀ vs B' H', Grow B H B' H' → OkAll H B' H' vs ss → ∀ x dx, H' x = none → H' dx = none → dx ≠ x → sp (.ref x :: (vs ++ [])) (upd (upd H' dx (.own x)) x (.ins C dx [])) (fun v H2 => v = .non ∧ D.rt (.ref x) H2) Ek) : tRet (tMakeL i C sp Ek ta) D σ H := by
  refine ⟨?_, h H B B H σ f (.rfl' eb) E _ q⟩
  rcases E.at_ i _ hi with z | ⟨v, hv, o⟩
  · cases z
  · obtain rfl : v = .ref C := o
    exact hv
/-! ### what a good text holds -/
theorem tick_ok {x : Str} {w r : Int} (h : tickW x = some [w, r]) : okTicks w r = true := by
  unfold tickW at h
  split at h
  · split at h
    · split at h
      · rename_i hh
        cases h
        exact hh
      · cases h
    · cases h
  · cases h
theorem due_good {ws : List Str} (h : dueN ws = none) : ∃ w r bs ss, okD ws = .tuple [roadD w r bs, intsD ss] ∧ Good w r bs ss := by
  have hb : badAt ws = none := by
    unfold dueN at h
    cases e : badAt ws with
    | none => rfl
    | some i => rw [e] at h; cases h
  have hg : ∀ j < ws.length, isNo (partD j (ws.getD j ⟨#[]⟩)) = false := fun j hj => by
    unfold badAt at hb
    rw [List.find?_eq_none] at hb
    have := hb j (List.mem_range.mpr hj)
    simpa using this
  have ge4 : ¬ ws.length < 4 := fun z => by
    unfold dueN at h
    rw [hb] at h
    have h : (if ws.length < 4 then some ws.length else none) = none := h
    rw [if_pos z] at h; cases h
  have le4 : ws.length ≤ 4 := by
    apply Nat.le_of_not_lt
    intro z
    have := hg 4 z
    rw [part4 _ (Nat.le_refl 4)] at this
    cases this
  obtain ⟨a, b, c, d, rfl⟩ := four (show ws.length = 4 by omega)
  obtain ⟨w, r, et⟩ := tick_some (hg 0 (by simp))
  obtain ⟨bs, eb⟩ := nums_some (o := numsW 12 12 b) (hg 1 (by simp))
  obtain ⟨ss, es⟩ := nums_some (o := numsW 10 1000000 d) (hg 3 (by simp))
  have et : tickW a = some [w, r] := et
  refine ⟨w, r, bs, ss, ?_, ?_⟩
  · show PyData.tuple [.tuple ((match tickW a with | some t => t | none => []).map PyData.int ++ [tupO (numsW 12 12 b)]), tupO (numsW 10 1000000 d)] = _
    rw [et, eb, es]; rfl
  · obtain ⟨b1, b2, b3⟩ := numsW_some eb
    obtain ⟨s1, s2, s3⟩ := numsW_some es
    exact ⟨tick_ok et, ⟨b1, b2⟩, b3, ⟨s1, s2⟩, s3⟩
/-! ### Trip(road, starts) -/
/-- a trip just made -/
structure NewT (C : Addr) (B H B' H' : Hp) (w r : Int) (bs ss : List Int) (t ls lf le : Addr) : Prop where
  g : Grow B H B' H'
  t0 : H t = none
  s0 : H ls = none
  f0 : H lf = none
  e0 : H le = none
  T : TripS C B' H' t ls lf le [.tuple [roadD w r bs, intsD ss]] [.int (finishOf w r bs ss)] []
section
variable {P : Program} {w : World} {K : PySem.W.Frag} {mg : Str → Option Value} {base : Heap} {C : Addr}
structure CalK (P : Program) (w : World) (K : PySem.W.Frag) (mg : Str → Option Value) (base : Heap) (C : Addr) : Prop where
  ex : ∃ f fd, FnOk P w K mg base CX0 7 f fd ["self", "road", "starts"] (spIn C) ∧ Mk K C f ∧ Binds K fd ["self", "road", "starts"] []
theorem make_run {B H : Hp} {vs : List V} {wk rd : Int} {bs ss : List Int} {Q : VK} {E : XK} (eb : Ex B H) (ra : RpAll B vs [roadD wk rd bs, intsD ss]) (good : Good wk rd bs ss)
    (q : ∀ t ls lf le B' H', NewT C B H B' H' wk rd bs ss t ls lf le → Q (.ref t) H') : ∀ x dx, H x = none → H dx = none → dx ≠ x → spIn C (.ref x :: (vs ++ [])) (upd (upd H dx (.own x)) x (.ins C dx [])) (fun v H2 => v = .non ∧ Q (.ref x) H2) E := by
  intro x dx hx hdx ne
  rw [List.append_nil]
  have e1 : Ex H (upd H dx (.own x)) := Ex.new hdx
  have hx1 : upd H dx (.own x) x = none := by rw [upd_ne (Ne.symm ne)]; exact hx
  have e2 : Ex H (upd (upd H dx (.own x)) x (.ins C dx [])) := e1.trans (Ex.new hx1)
  refine ⟨B, x, dx, vs, wk, rd, bs, ss, eb.trans e2, Evl.fresh_back eb hx, upd_same, rfl, ra, good, fun B' H' ls lf le m T n1 n2 n3 => ⟨rfl, ?_⟩⟩
  refine q x ls lf le B' H' ⟨⟨m.bb, fun a o e => ?_, m.bh, fun a o e n => m.nw a o (e2 a o e) n⟩, hx, ex_none e2 n1, ex_none e2 n2, ex_none e2 n3, T⟩
  exact m.kk a o (fun z => by have z : a = x := z; rw [z, hx] at e; cases e) (e2 a o e)
/-! ### Trip.read(text) -/
structure CalX (P : Program) (w : World) (K : PySem.W.Frag) (mg : Str → Option Value) (base : Heap) (CX : CXT) (k : Nat) (x : Str) (sp : Sp) : Prop where
  ex : ∃ f fd ps, FnOk P w K mg base CX k f fd ps sp ∧ mg x = some (.ref f) ∧ PySem.W.keepIn K (.ref f) = true ∧ Binds K fd ps []
def spRd (C CB : Addr) : Sp := fun vs H Q E => ∃ B d v, Ex B H ∧ vs = [.ref C, v] ∧ Rp B v d ∧
  ((tyN d ≠ "str" ∧ kitB (tyN d) "str" = some false ∧ FE CB E .non H) ∨
    ∃ x, d = .str x ∧ Tx x ∧ (∀ n, dueN (Txt.split x blank1) = some n → FE CB E (.int (n : Nat)) H) ∧
      (dueN (Txt.split x blank1) = none → ∀ w r bs ss, okD (Txt.split x blank1) = .tuple [roadD w r bs, intsD ss] → Good w r bs ss → ∀ t ls lf le B' H', NewT C B H B' H' w r bs ss t ls lf le → Q (.ref t) H'))
abbrev s_Trip_read : Stmt := inClass (top 69) 2
abbrev n_Trip_read : List Str := ["cls", "text", "road", "starts"]
theorem sc_Trip_read : FnScope n_Trip_read ["cls", "text"] (defScope s_Trip_read) := ⟨rfl, rfl, rfl, by decide +kernel, rfl, by decide +kernel, by decide +kernel⟩
theorem f_Trip_read {CB : Addr} (c_parse_trip : CalX P w K mg base (L2.CX P w) 7 "parse_trip" (spPT CB)) (cK : CalK P w K mg base C) {f : Addr} {fd : FuncData} (Fn : Fun K "read" "Trip.read" s_Trip_read f fd) : FnOk P w K mg base (L2.CX P w) 9 f fd ["cls", "text"] (spRd C CB) := by
  have sc := sc_Trip_read
  obtain ⟨fP, fdP, psP, FP, mP, kP, bP⟩ := c_parse_trip.ex
  obtain ⟨fI, fdI, FI, M, bI⟩ := cK.ex
  refine Fn.okX sc (fun vs H Q E h => ?_) (fun cdv A outer s H vs Q E hr h => ?_)
  · obtain ⟨B, d, v, _, rfl, _⟩ := h
    rfl
  refine ⟨_, (pss_cons (ps_asg (pe_callS FP (hr.mono (by decide)) rfl mP kP bP (fun σ => passAt (takes_of rfl rfl rfl rfl) σ) (pa_cons (pv 1) pa_nil)) (pg_tup (by rfl) (pgs_cons (pg_name (i := 2) sc.nd rfl (Or.inl rfl)) (pgs_cons (pg_name (i := 3) sc.nd rfl (Or.inl rfl)) pgs_nil))))
      (pss_one (ps_ret (pe_makeL (i := 0) M FI hr bI pass0 rfl (.inl rfl) (pa_cons (pv 2) (pa_cons (pv 3) pa_nil)))))), ?_⟩
  obtain ⟨B, d, v, eb, rfl, rv, h⟩ := h
  have E0 : Env H B H (L2.start n_Trip_read [.ref C, v]) (startT n_Trip_read C [d]) := env_startT (dpa_one rv)
  refine cps_seq (cps_callS (F := fun _ _ => True) (ss := [.d d]) (a_cons (e_var rfl) a_nil) trivial eb E0 fun vs1 B1 H1 g1 o1 => ?_)
  refine ⟨B1, d, g1.bh, OkAll.rp (ds := [d]) o1, ?_⟩
  rcases h with ⟨h1, h2, fe⟩ | ⟨x, rfl, tx, fe, q⟩
  · exact .inl ⟨h1, h2, fe.mono g1.hh⟩
  refine .inr ⟨x, rfl, tx, fun n hn => (fe n hn).mono g1.hh, fun hn v2 B2 H2 g2 r2 => ?_⟩
  obtain ⟨wk, rd, bs, ss, eo, good⟩ := due_good hn
  rw [eo] at r2
  refine (g_tup (gs_cons g_name (gs_cons g_name gs_nil)) : TgE _ [2, 3] (.tuple [roadD wk rd bs, intsD ss]) [roadD wk rd bs, intsD ss]) B2 H2 _ v2 _ g2.bh r2 fun ws rws hl => ?_
  have E2 : Env H B2 H2 (setAll (L2.start n_Trip_read [.ref C, v]) [2, 3] ws) [.v (.ref C), .d (.str x), .d (roadD wk rd bs), .d (intsD ss)] := ((E0.mono g1).mono g2).setAll rws
  have E3 : Env H2 B2 H2 (setAll (L2.start n_Trip_read [.ref C, v]) [2, 3] ws) [.v (.ref C), .d (.str x), .d (roadD wk rd bs), .d (intsD ss)] := E2.flat rfl
  refine cps_retMk (F := fun _ _ => True) (ss := [.d (roadD wk rd bs), .d (intsD ss)]) (L := [.v (.ref C), .d (.str x), .d (roadD wk rd bs), .d (intsD ss)]) rfl (a_cons (e_var rfl) (a_cons (e_var rfl) a_nil)) trivial g2.bh E3 fun vs4 B4 H4 g4 o4 => ?_
  have gg := (g1.trans g2).trans g4
  refine make_run g4.bh (OkAll.rp (ds := [roadD wk rd bs, intsD ss]) o4) good fun t ls lf le B' H' N => ?_
  exact q hn wk rd bs ss eo good t ls lf le B' H' ⟨gg.trans N.g, ex_none gg.hh N.t0, ex_none gg.hh N.s0, ex_none gg.hh N.f0, ex_none gg.hh N.e0, N.T⟩
end
end K45
-- BI
set_option maxHeartbeats 4000000
namespace K45
open PySem PySem.Spec PyProof.Rows L2
open Evl (Ex ex_rd ex_l ex_t)
/-! ### the deck: a list [cells, count], cells a list of numbers -/
def spDw : Sp := fun vs H Q _ => ∃ (D Cl : Addr) (m n : Int) (cs : List Int), vs = [.ref D, .int m] ∧ 1 ≤ m ∧ m < 1073741824 ∧ H D = some (.lst [.ref Cl, .int n]) ∧ H Cl = some (.lst (cs.map V.int)) ∧ D ≠ Cl ∧ 0 ≤ n ∧ n ≤ 1000000 ∧ (∀ c ∈ cs, 0 ≤ c) ∧
  ∀ (r : Int) (cs' : List Int) (H' : Hp), 0 ≤ r → r < m → H' D = some (.lst [.ref Cl, .int (n + 1)]) → H' Cl = some (.lst (cs'.map V.int)) → (∀ c ∈ cs', 0 ≤ c) → (∀ a, a ≠ D → a ≠ Cl → H' a = H a) → Q (.int r) H'
theorem int_get {cs : List Int} {j : Nat} (h : j < cs.length) : (cs.map V.int)[j]? = some (.int cs[j]) := by
  rw [List.getElem?_map, List.getElem?_eq_getElem h]; rfl
theorem ixN_nat {n j : Nat} (h : j < n) : ixN n (j : Int) = some j := by
  have e := atI_nat (xs := List.range n) (List.getElem?_range h)
  unfold atI at e
  rw [List.length_range] at e
  cases q : ixN n (j : Int) with
  | none => rw [q] at e; cases e
  | some k =>
    rw [q] at e
    have e : (List.range n)[k]? = some j := e
    have hk : k < n := by have := (List.getElem?_eq_some_iff.mp e).1; simpa using this
    rw [List.getElem?_range hk] at e
    exact e
section
variable {P : Program} {w : World} {K : PySem.W.Frag} {mg : Str → Option Value} {base : Heap}
abbrev s_law_draw : Stmt := top 73
abbrev n_law_draw : List Str := ["_law_deck_here", "_law_many", "_law_cell", "_law_place"]
theorem sc_law_draw : FnScope n_law_draw ["_law_deck_here", "_law_many"] (defScope s_law_draw) := ⟨rfl, rfl, rfl, by decide +kernel, rfl, by decide +kernel, by decide +kernel⟩
theorem cps_ix {K : PySem.W.Frag} {ta tb : TE} {σ : St} {H : Hp} {Q : VK} {l : Addr} {vs : List V} {i : Int} {v : V} (ha : ∀ Q', Q' (.ref l) H → ta σ H Q') (hb : ∀ Q', Q' (.int i) H → tb σ H Q') (hl : H l = some (.lst vs)) (hi : atI vs i = some v) (q : Q v H) : tOp (rIx K) ta tb σ H Q :=
  ha _ (hb _ (.inl ⟨l, vs, i, v, rfl, rfl, SqL.of hl, hi, q⟩))
theorem if_yes {b : Bool} {A B : Prop} (hb : b = true) (h : A) : if b = true then A else B := by rw [if_pos hb]; exact h
theorem if_no {b : Bool} {A B : Prop} (hb : b = false) (h : B) : if b = true then A else B := by rw [hb, if_neg Bool.false_ne_true]; exact h
theorem cps_seqE {te : TE} {ty : TS} {i : Nat} {D : Ends} {σ : St} {H : Hp} (h : te σ H fun v H1 => ty D (σ.set i (some v)) H1) : tSeq (tAsg te (gName i)) ty D σ H := h
theorem cps_seqG {te : TE} {ty : TS} {g : TG} {D : Ends} {σ : St} {H : Hp} (h : te σ H fun v H1 => g v σ H1 fun σ2 H2 => ty D σ2 H2) : tSeq (tAsg te g) ty D σ H := h
theorem cps_seqI {tt : TT} {tx tz ty : TS} {D : Ends} {σ : St} {H : Hp} (h : tt σ H fun b H1 => if b = true then tx { D with nx := ty D } σ H1 else tz { D with nx := ty D } σ H1) : tSeq (tIfS tt tx tz) ty D σ H := h
theorem cps_split {tx ty : TS} {D : Ends} {σ : St} {H : Hp} (R : St → Prop) (h2 : ∀ σ', R σ' → ty D σ' H) (h1 : (∀ σ', R σ' → ty D σ' H) → tx { D with nx := ty D } σ H) : tSeq tx ty D σ H := h1 h2
theorem f_law_draw (G : Gs K mg) (D : DefF K mg "_law_draw" s_law_draw) : C8.Cal P w K mg base 1 "_law_draw" spDw [] := by
  obtain ⟨f, fd, Fn, m⟩ := D
  have sc := sc_law_draw
  refine ⟨f, fd, ["_law_deck_here", "_law_many"], [], ?_, m, Fn.kp, Fn.binds (fun _ _ _ _ _ _ us hl => match us, hl with | [_, _], _ => rfl), .nil⟩
  refine Fn.ok sc (fun vs H Q E h => ?_) (fun cdv A outer s H vs Q E hr h => ?_)
  · obtain ⟨D, Cl, m, n, cs, rfl, _⟩ := h
    rfl
  have hu := hr.units
  refine ⟨_, (pss_cons (ps_asg (pe_op (kx_add G) (pe_ix (kx_ix G) (pv 0) pe_int (fun _ _ => rfl)) pe_int) (pg_sub (pv 0) pe_int set_list))
      (pss_cons (ps_set (i := 2) sc.nd rfl (Or.inl rfl) pe_int)
      (pss_cons (ps_set (i := 3) sc.nd rfl (Or.inl rfl) (pe_un un_neg pe_int))
      (pss_cons (ps_if (pt_cmpR op_gt (u_len G (pa_cons (pe_ix (kx_ix G) (pv 0) pe_int (fun _ _ => rfl)) pa_nil)) pe_int (nomark _)) (pss_cons (ps_set (i := 3) sc.nd rfl (Or.inl rfl) (pe_op op_mod (pe_ix (kx_ix G) (pv 0) pe_int (fun _ _ => rfl)) (u_len G (pa_cons (pe_ix (kx_ix G) (pv 0) pe_int (fun _ _ => rfl)) pa_nil))))
      (pss_one (ps_set (i := 2) sc.nd rfl (Or.inl rfl) (pe_ix (kx_ix G) (pe_ix (kx_ix G) (pv 0) pe_int (fun _ _ => rfl)) (pv 3) (fun _ _ => rfl))))) pss_nil)
      (pss_cons (ps_if (pt_cmpR op_ge (pv 2) (pe_op op_pow pe_int pe_int) (nomark _)) (pss_cons (ps_asg (pe_op op_fdivW (pv 2) (pv 1)) (pg_sub (pe_ix (kx_ix G) (pv 0) pe_int (fun _ _ => rfl)) (pv 3) set_list))
      (pss_one (ps_ret (pe_op op_mod (pv 2) (pv 1))))) pss_nil)
      (pss_one (ps_ret (pe_op op_mod (pe_op op_mod (pe_op op_pow (pe_op (kx_add G) (pe_op (kx_add G) (pe_op op_mod (pv 2) pe_int) (pe_op (kx_mul G) pe_int (pe_ix (kx_ix G) (pv 0) pe_int (fun _ _ => rfl)))) pe_int) pe_int) pe_int) (pv 1))))))))), ?_⟩
  obtain ⟨D, Cl, m, n, cs, rfl, hm1, hm2, hD, hC, ne, hn0, hn1, hcs, q⟩ := h
  have v0 : ∀ {o2 o3 : Option V} {H : Hp} (Q' : VK), Q' (.ref D) H → tVar 0 [some (.ref D), some (.int m), o2, o3] H Q' := fun Q' h => ⟨_, rfl, h⟩
  -- deck[1] = deck[1] + 1
  refine cps_seqG (cps_ix (l := D) (i := 1) (v := .int n) (v0 (o2 := none) (o3 := none)) (fun _ h => h) hD rfl ?_)
  refine .inl ⟨n, 1, rfl, rfl, ?_⟩
  refine ⟨.ref D, rfl, D, [.ref Cl, .int n], 1, 1, rfl, rfl, hD, rfl, ?_⟩
  have hD1 : (upd H D (.lst ([V.ref Cl, .int n].set 1 (.int (n + 1))))) D = some (.lst [.ref Cl, .int (n + 1)]) := upd_same
  have hC1 : (upd H D (.lst ([V.ref Cl, .int n].set 1 (.int (n + 1))))) Cl = some (.lst (cs.map V.int)) := by rw [upd_ne ne.symm]; exact hC
  have ho : ∀ a, a ≠ D → a ≠ Cl → (upd H D (.lst ([V.ref Cl, .int n].set 1 (.int (n + 1))))) a = H a := fun a h _ => upd_ne h
  generalize (upd H D (.lst ([V.ref Cl, .int n].set 1 (.int (n + 1))))) = H1 at hD1 hC1 ho
  refine cps_seqE ?_
  refine cps_seqE ⟨1, rfl, ?_⟩
  have deck0 : ∀ {o2 o3 : Option V} (Q' : VK), Q' (.ref Cl) H1 → tOp (rIx K) (tVar 0) (tC (.int 0)) [some (.ref D), some (.int m), o2, o3] H1 Q' := fun Q' h => cps_ix (l := D) (i := 0) (v := .ref Cl) (v0) (fun _ h => h) hD1 rfl h
  have deck1 : ∀ {o2 o3 : Option V} (Q' : VK), Q' (.int (n + 1)) H1 → tOp (rIx K) (tVar 0) (tC (.int 1)) [some (.ref D), some (.int m), o2, o3] H1 Q' := fun Q' h => cps_ix (l := D) (i := 1) (v := .int (n + 1)) (v0) (fun _ h => h) hD1 rfl h
  have hlen : (cs.map V.int).length = cs.length := List.length_map _
  refine cps_split (R := fun σ' => ∃ (c p : Int), 0 ≤ c ∧ ((p = -1 ∧ c = 0) ∨ ∃ j : Nat, j < cs.length ∧ p = (j : Int)) ∧ σ' = [some (.ref D), some (.int m), some (.int c), some (.int p)]) ?tail fun tail => ?main
  case main =>
    refine deck0 _ ?_
    refine .inl ⟨Cl, _, rfl, .inl (SqL.of hC1), ?_⟩
    refine ⟨((cs.map V.int).length : Int), 0, rfl, rfl, _, rfl, ?_⟩
    by_cases hz : cs.length = 0
    · refine if_no (b := decide (0 < ((cs.map V.int).length : Int))) (by rw [hlen, hz]; rfl) ?_
      exact tail _ ⟨0, -1, by omega, .inl ⟨rfl, rfl⟩, rfl⟩
    · refine if_yes (b := decide (0 < ((cs.map V.int).length : Int))) (by rw [hlen]; simp; omega) ?_
      have hpos : (0 : Int) < (cs.length : Int) := by omega
      obtain ⟨j, hj, ej⟩ : ∃ j : Nat, j < cs.length ∧ (n + 1) % (cs.length : Int) = (j : Int) := by
        have h1 := Int.emod_lt_of_pos (n + 1) hpos
        have h2 := Int.emod_nonneg (n + 1) (by omega : (cs.length : Int) ≠ 0)
        exact ⟨((n + 1) % (cs.length : Int)).toNat, by omega, by omega⟩
      refine cps_seqE (deck1 _ (deck0 _ (.inl ⟨Cl, _, rfl, .inl (SqL.of hC1), ?_⟩)))
      refine ⟨n + 1, (cs.length : Int), rfl, by rw [hlen], hpos, ?_⟩
      refine deck0 _ ⟨_, rfl, .inl ⟨Cl, _, (n + 1) % (cs.length : Int), .int cs[j], rfl, rfl, SqL.of hC1, ?_, ?_⟩⟩
      · rw [ej]; exact atI_nat (int_get hj)
      · exact tail _ ⟨_, _, hcs _ (List.getElem_mem hj), .inr ⟨_, hj, ej⟩, rfl⟩
  case tail =>
    rintro σ' ⟨c, p, hc, hp, rfl⟩
    refine cps_seqI ?_
    refine ⟨_, rfl, ?_⟩
    refine ⟨10, 18, rfl, rfl, by unfold CPow; decide, ?_⟩
    refine ⟨c, _, rfl, rfl, _, rfl, ?_⟩
    by_cases hbig : (10 : Int) ^ (18 : Int).toNat ≤ c
    · refine if_yes (decide_eq_true hbig) ?_
      rcases hp with ⟨rfl, rfl⟩ | ⟨j, hj, rfl⟩
      · exact absurd hbig (by decide)
      refine cps_seqG ?_
      refine ⟨_, rfl, _, rfl, c, m, rfl, rfl, ⟨by omega, ?_⟩, ?_⟩
      · exact Nat.lt_of_lt_of_le ((Nat.log2_lt (by omega)).mpr (show m.natAbs < 2 ^ 30 by omega)) (by decide)
      refine deck0 _ ⟨_, rfl, Cl, cs.map V.int, (j : Int), j, rfl, rfl, hC1, ?_, ?_⟩
      · rw [hlen]; exact ixN_nat hj
      refine ⟨_, rfl, _, rfl, c, m, rfl, rfl, by omega, ?_⟩
      refine q (c % m) (cs.set j (c / m)) _ (Int.emod_nonneg _ (by omega)) (Int.emod_lt_of_pos _ (by omega)) ?_ ?_ (fun x hx => ?_) (fun a h1 h2 => ?_)
      · rw [upd_ne ne]; exact hD1
      · rw [upd_same, List.map_set]
      · rcases List.mem_or_eq_of_mem_set hx with h | h
        · exact hcs x h
        · subst h; exact Int.ediv_nonneg hc (by omega)
      · rw [upd_ne h2]; exact ho a h1 h2
    · refine if_no (decide_eq_false hbig) ?_
      refine ⟨_, rfl, c, 2147483587, rfl, rfl, show (0 : Int) < 2147483587 by decide, ?_⟩
      refine deck1 _ (.inl ⟨7919, n + 1, rfl, rfl, .inl ⟨by decide, by decide⟩, ?_⟩)
      refine .inl ⟨_, _, rfl, rfl, .inl ⟨_, _, rfl, rfl, ?_⟩⟩
      have h1 := Int.emod_nonneg c (by decide : (2147483587 : Int) ≠ 0)
      have h2 := Int.emod_lt_of_pos c (by decide : (0 : Int) < 2147483587)
      refine ⟨_, _, rfl, rfl, ⟨by decide, by decide, by omega⟩, ?_⟩
      refine ⟨_, _, rfl, rfl, show (0 : Int) < 2147483647 by decide, ?_⟩
      refine ⟨_, rfl, _, _, rfl, rfl, by omega, ?_⟩
      exact q _ cs H1 (Int.emod_nonneg _ (by omega)) (Int.emod_lt_of_pos _ (by omega)) hD1 hC1 hcs ho
end
end K45
-- BJ
set_option maxHeartbeats 4000000
namespace K45
open PySem PySem.Spec PyProof.Rows L2
open Evl (Ex ex_rd ex_l ex_t)
abbrev Tr0 : Fx := fun _ _ => True
def MD (D Cl : Addr) : Addr → Prop := fun a => a = D ∨ a = Cl
/-- the deck stands at D, at most N draws were made -/
structure Dk (D Cl : Addr) (N : Int) (B H : Hp) : Prop where
  ne : D ≠ Cl
  bD : B D = none
  bC : B Cl = none
  ex : ∃ (n : Int) (cs : List Int), H D = some (.lst [.ref Cl, .int n]) ∧ H Cl = some (.lst (cs.map V.int)) ∧ 0 ≤ n ∧ n ≤ N ∧ ∀ c ∈ cs, 0 ≤ c
theorem Dk.grow {D Cl : Addr} {N : Int} {B H B' H' : Hp} (k : Dk D Cl N B H) (g : Grow B H B' H') : Dk D Cl N B' H' := by
  obtain ⟨n, cs, h1, h2, h3⟩ := k.ex
  exact ⟨k.ne, g.nw _ _ h1 k.bD, g.nw _ _ h2 k.bC, n, cs, g.hh _ _ h1, g.hh _ _ h2, h3⟩
theorem Dk.weak {D Cl : Addr} {N M : Int} {B H : Hp} (k : Dk D Cl N B H) (h : N ≤ M) : Dk D Cl M B H := by
  obtain ⟨n, cs, h1, h2, h3, h4, h5⟩ := k.ex
  exact ⟨k.ne, k.bD, k.bC, n, cs, h1, h2, h3, by omega, h5⟩
theorem Dk.put {D Cl p : Addr} {N : Int} {B H : Hp} {o : HO} (k : Dk D Cl N B H) (n : ¬ MD D Cl p) : Dk D Cl N B (upd H p o) := by
  obtain ⟨m, cs, h1, h2, h3⟩ := k.ex
  exact ⟨k.ne, k.bD, k.bC, m, cs, by rw [upd_ne (fun z => n (.inl z.symm))]; exact h1, by rw [upd_ne (fun z => n (.inr z.symm))]; exact h2, h3⟩
theorem Dk.notin {D Cl p : Addr} {N : Int} {B H : Hp} (k : Dk D Cl N B H) (h : H p = none) : ¬ MD D Cl p := by
  obtain ⟨m, cs, h1, h2, _⟩ := k.ex
  rintro (z | z)
  · rw [z, h1] at h; cases h
  · rw [z, h2] at h; cases h
theorem GrowM.own {M : Addr → Prop} {B H B' H' : Hp} {p : Addr} {o : HO} (g : GrowM M B H B' H') (h0 : H p = none) (bp : B' p = none) : GrowM M B H B' (upd H' p o) :=
  ⟨g.bb, fun a u m e => by rw [upd_ne (ne_of_none e h0)]; exact g.kk a u m e, Ex.mut g.bh bp, g.nw, fun a n => by
    by_cases z : a = p
    · subst z; exact h0
    · rw [upd_ne z] at n; exact g.dom a n⟩
/-- an expression that may draw -/
def EvI (D Cl : Addr) (te : TE) (L : List Sl) (N N' : Int) (s : PyData → Prop) : Prop :=
  ∀ (B H : Hp) (σ : St), Ex B H → Env H B H σ L → Dk D Cl N B H → ∀ Q : VK, (∀ v x B' H', GrowM (MD D Cl) B H B' H' → Dk D Cl N' B' H' → s x → Rp B' v x → Q v H') → te σ H Q
def Flat (L : List Sl) : Prop := (L.all fun s => !isM s) = true
/-- an int within bounds -/
def In (lo hi : Int) (x : PyData) : Prop := ∃ i : Int, x = .int i ∧ lo ≤ i ∧ i ≤ hi
section
variable {K : PySem.W.Frag} {D Cl : Addr} {L : List Sl} {N N1 N2 N3 : Int} {s s1 s2 s3 : PyData → Prop} {ta tb tc te : TE}
theorem i_pure {x : PyData} (h : EvE Tr0 te L (.d x)) (hs : s x) : EvI D Cl te L N N s := fun B H σ eb E k Q q =>
  h H B B H σ trivial (.rfl' eb) E Q fun v B' H' g o => q v x B' H' g.toM (k.grow g) hs o
theorem i_imp (h : EvI D Cl te L N N1 s1) (hs : ∀ x, s1 x → s x) : EvI D Cl te L N N1 s := fun B H σ eb E k Q q => h B H σ eb E k Q fun v x B' H' g k' hx r => q v x B' H' g k' (hs x hx) r
theorem i_op {r : R2} (hf : Flat L) (ha : EvI D Cl ta L N N1 s1) (hb : EvI D Cl tb L N1 N2 s2) (hr : ∀ x y, s1 x → s2 y → ∃ z, s3 z ∧ EvE Tr0 (tOp r (tVar 0) (tVar 1)) [.d x, .d y] (.d z)) : EvI D Cl (tOp r ta tb) L N N2 s3 := by
  intro B H σ eb E k Q q
  refine ha B H σ eb E k _ fun v x B1 H1 m1 k1 hx rx => hb B1 H1 σ m1.bh (E.flatB hf m1.bb) k1 _ fun w y B2 H2 m2 k2 hy ry => ?_
  obtain ⟨z, hz, e⟩ := hr x y hx hy
  have E2 : Env H2 B2 H2 [some v, some w] [.d x, .d y] := env_startS (N := []) (vs := [v, w]) (ss := [.d x, .d y]) (.cons (dp_mono m2.bb rx) (.cons ry .nil)) (by simp [isM])
  obtain ⟨v', e1, w', e2, hh⟩ := e H2 B2 B2 H2 [some v, some w] trivial (.rfl' m2.bh) E2 Q fun u B3 H3 g o => q u z B3 H3 ((m1.trans m2).trans g.toM) (k2.grow g) hz o
  cases e1; cases e2
  exact hh
theorem i_call2 {r : List V → Hp → VK → Prop} (hf : Flat L) (ha : EvI D Cl ta L N N1 s1) (hb : EvI D Cl tb L N1 N2 s2) (hr : ∀ x y, s1 x → s2 y → ∃ z, s3 z ∧ EvE Tr0 (tCB r (tCons (tVar 0) (tCons (tVar 1) tNil))) [.d x, .d y] (.d z)) : EvI D Cl (tCB r (tCons ta (tCons tb tNil))) L N N2 s3 := by
  intro B H σ eb E k Q q
  refine ha B H σ eb E k _ fun v x B1 H1 m1 k1 hx rx => hb B1 H1 σ m1.bh (E.flatB hf m1.bb) k1 _ fun w y B2 H2 m2 k2 hy ry => ?_
  obtain ⟨z, hz, e⟩ := hr x y hx hy
  have E2 : Env H2 B2 H2 [some v, some w] [.d x, .d y] := env_startS (N := []) (vs := [v, w]) (ss := [.d x, .d y]) (.cons (dp_mono m2.bb rx) (.cons ry .nil)) (by simp [isM])
  obtain ⟨v', e1, w', e2, hh⟩ := e H2 B2 B2 H2 [some v, some w] trivial (.rfl' m2.bh) E2 Q fun u B3 H3 g o => q u z B3 H3 ((m1.trans m2).trans g.toM) (k2.grow g) hz o
  cases e1; cases e2
  exact hh
/-- [a, b, c] as data -/
theorem i_lst3 (hf : Flat L) (ha : EvI D Cl ta L N N1 s1) (hb : EvI D Cl tb L N1 N2 s2) (hc : EvI D Cl tc L N2 N3 s3) : EvI D Cl (tLst (tCons ta (tCons tb (tCons tc tNil)))) L N N3 (fun l => ∃ x y z, l = .list [x, y, z] ∧ s1 x ∧ s2 y ∧ s3 z) := by
  intro B H σ eb E k Q q
  refine ha B H σ eb E k _ fun v x B1 H1 m1 k1 hx rx => hb B1 H1 σ m1.bh (E.flatB hf m1.bb) k1 _ fun w y B2 H2 m2 k2 hy ry => hc B2 H2 σ m2.bh (E.flatB hf (m1.bb.trans m2.bb)) k2 _ fun u z B3 H3 m3 k3 hz rz => ?_
  refine ⟨(by decide : (3 : Nat) ≤ sizeLine), fun p hp => ?_⟩
  have g : Grow B3 H3 (upd B3 p (.lst [v, w, u])) (upd H3 p (.lst [v, w, u])) := Grow.put m3.bh hp
  exact q _ _ _ _ (((m1.trans m2).trans m3).trans g.toM) (k3.grow g) ⟨x, y, z, rfl, hx, hy, hz⟩ (.lst upd_same (.cons (dp_mono ((m2.bb.trans m3.bb).trans g.bb) rx) (.cons (dp_mono (m3.bb.trans g.bb) ry) (.cons (dp_mono g.bb rz) .nil))))
/-- a draw -/
theorem i_draw {i : Nat} {hi : Int} {E' : XK} (hd : L[i]? = some (.v (.ref D))) (hm : EvI D Cl te L N N1 (In 1 hi)) (hh : hi < 1073741824) (hN : N1 ≤ 1000000) : EvI D Cl (tCall spDw [] E' (tCons (tVar i) (tCons te tNil))) L N (N1 + 1) (In 0 (hi - 1)) := by
  intro B H σ eb E k Q q
  rcases E.at_ i _ hd with z | ⟨v, hv, o⟩
  · cases z
  obtain rfl : v = .ref D := o
  refine ⟨.ref D, hv, hm B H σ eb E k _ fun w x B1 H1 m1 k1 hx rx => ?_⟩
  obtain ⟨m, rfl, h1, h2⟩ := hx
  obtain rfl := dp_int rx
  obtain ⟨n, cs, hD, hC, n0, n1, hcs⟩ := k1.ex
  refine ⟨D, Cl, m, n, cs, rfl, h1, by omega, hD, hC, k1.ne, n0, by omega, hcs, fun r cs' H' r0 r1 hD' hC' hcs' ho => ?_⟩
  refine q _ _ B1 H' (m1.trans ⟨Ex.refl B1, fun a o n e => ?_, fun a o e => ?_, fun a o e n => n, fun a n => ?_⟩) ⟨k1.ne, k1.bD, k1.bC, n + 1, cs', hD', hC', by omega, by omega, hcs'⟩ ⟨r, rfl, r0, by omega⟩ (.int r)
  · rw [ho a (fun z => n (.inl z)) (fun z => n (.inr z))]; exact e
  · have na : a ≠ D := fun z => by rw [z, k1.bD] at e; cases e
    have nc : a ≠ Cl := fun z => by rw [z, k1.bC] at e; cases e
    rw [ho a na nc]; exact m1.bh a o e
  · have na : a ≠ D := fun z => by rw [z, hD'] at n; cases n
    have nc : a ≠ Cl := fun z => by rw [z, hC'] at n; cases n
    rw [ho a na nc] at n; exact n
/-! ### statements -/
theorem cps_asgI {i : Nat} {ty : TS} {B H : Hp} {σ : St} {Dn : Ends} (h : EvI D Cl te L N N1 s) (hf : Flat L) (eb : Ex B H) (E : Env H B H σ L) (k : Dk D Cl N B H)
    (q : ∀ x B' H' σ', GrowM (MD D Cl) B H B' H' → Dk D Cl N1 B' H' → s x → Env H' B' H' σ' (L.set i (.d x)) → ty Dn σ' H') : tSeq (tAsg te (gName i)) ty Dn σ H :=
  h B H σ eb E k _ fun v x B1 H1 m1 k1 hx rx => q x B1 H1 _ m1 k1 hx ((E.flatB hf m1.bb).set (s := .d x) rx rfl)
/-- a, b = e, e' by a tuple -/
theorem cps_asgI2 {i j : Nat} {ty : TS} {B H : Hp} {σ : St} {Dn : Ends} (ha : EvI D Cl ta L N N1 s1) (hb : EvI D Cl tb L N1 N2 s2) (hf : Flat L) (eb : Ex B H) (E : Env H B H σ L) (k : Dk D Cl N B H)
    (q : ∀ x y B' H' σ', GrowM (MD D Cl) B H B' H' → Dk D Cl N2 B' H' → s1 x → s2 y → Env H' B' H' σ' ((L.set i (.d x)).set j (.d y)) → ty Dn σ' H') : tSeq (tAsg (tTup (tCons ta (tCons tb tNil))) (gTup K 2 (gCons (gName i) (gCons (gName j) gNil)))) ty Dn σ H := by
  refine ha B H σ eb E k _ fun v x B1 H1 m1 k1 hx rx => hb B1 H1 σ m1.bh (E.flatB hf m1.bb) k1 _ fun w y B2 H2 m2 k2 hy ry => ?_
  refine ⟨(by decide : (2 : Nat) ≤ sizeLine), fun p hp => ⟨p, [v, w], rfl, SqT.of upd_same, rfl, _, _, rfl, _, _, rfl, rfl, ?_⟩⟩
  have g : Grow B2 H2 B2 (upd H2 p (.tup [v, w])) := Grow.side m2.bh hp
  exact q x y B2 _ _ ((m1.trans m2).trans g.toM) (k2.grow g) hx hy (((E.flatB hf (m1.bb.trans m2.bb)).set (s := .d x) (dp_mono m2.bb rx) rfl).set (s := .d y) ry rfl)
theorem cps_joinH {tx ty : TS} {Dn : Ends} {σ : St} {H : Hp} (R : St → Hp → Prop) (h2 : ∀ σ' H', R σ' H' → ty Dn σ' H') (h1 : (∀ σ' H', R σ' H' → ty Dn σ' H') → tx { Dn with nx := ty Dn } σ H) : tSeq tx ty Dn σ H := h1 h2
/-- [e for j in range(n)], e draws -/
theorem i_lc {tn : TE} {j : Nat} {c : Int} {mx : Nat} (hc : 0 ≤ c) (hmx : mx ≤ 1000) (hf : Flat L) (hr : EvI D Cl tn L N N1 (In 1 mx))
    (turn : ∀ (k : Nat) (M : Int), k < mx → M ≤ N1 + c * mx → EvI D Cl te (setAllD (wipeD L [j]) [j] [.int (k : Int)]) M (M + c) s) {B H : Hp} {σ : St} {Q : VK} (eb : Ex B H) (E : Env H B H σ L) (k : Dk D Cl N B H)
    (q : ∀ l vs ds B' H', GrowM (MD D Cl) B H B' H' → Dk D Cl (N1 + c * mx) B' H' → H l = none → B' l = none → H' l = some (.lst vs) → RpAll B' vs ds → 1 ≤ ds.length → ds.length ≤ mx → (∀ d ∈ ds, s d) → Q (.ref l) H') : tLc (iRng1 (tCons tn tNil)) (gName j) tYes te [j] σ H Q := by
  refine hr B H σ eb E k _ fun v x B1 H1 m1 k1 hx rx => ?_
  obtain ⟨i, rfl, h1, h2⟩ := hx
  obtain rfl := dp_int rx
  obtain ⟨n, rfl⟩ : ∃ n : Nat, i = (n : Int) := ⟨i.toNat, by omega⟩
  refine ⟨(n : Int), rfl, by omega, by omega, fun l hl => ?_⟩
  rw [Int.toNat_natCast]
  have bl := Evl.fresh_back m1.bh hl
  have nl := k1.notin hl
  have cm : ∀ a : Nat, a ≤ n → N1 + c * (a : Int) ≤ N1 + c * (mx : Int) := fun a ha => by
    have := Int.mul_le_mul_of_nonneg_left (show (a : Int) ≤ (mx : Int) by omega) hc
    omega
  have g1 : Grow B1 H1 B1 (upd H1 l (.lst [])) := Grow.side m1.bh hl
  refine lc_it (walk_range (lo := 0) (n := n)) (fun i H' => ∃ B' acc ds, GrowM (MD D Cl) B1 H1 B' H' ∧ H' l = some (.lst acc) ∧ B' l = none ∧ RpAll B' acc ds ∧ ds.length = i ∧ (∀ d ∈ ds, s d) ∧ Dk D Cl (N1 + c * (i : Int)) B' H')
    ⟨B1, [], [], g1.toM, upd_same, bl, .nil, rfl, (fun d h => by cases h), (k1.grow g1).weak (by simp)⟩ (fun i H' _ _ => trivial) ?_ ?_
  · rintro i x H' H2 hlt ⟨B', acc, ds, gg, el, b', ra, ln, hs, k'⟩ ⟨rfl, rfl⟩
    refine ⟨?_, ?_⟩
    · have := wipe_setAll (σ := L2.wipe σ [j]) (vs := [j]) (js := [j]) (ws := [.int (0 + (i : Int))]) (fun _ h => h)
      rw [wipe_wipe [j] [j] fun _ h => h] at this
      exact this
    · show te ((L2.wipe σ [j]).set j (some (.int (0 + (i : Int))))) H2 _
      have E2 : Env H2 B' H2 (setAll (L2.wipe σ [j]) [j] [.int (i : Int)]) (setAllD (wipeD L [j]) [j] [.int (i : Int)]) := (((E.flatB (H0' := H2) (H' := H2) hf (m1.bb.trans gg.bb)).wipe [j]).setAll (js := [j]) (dpa_one (.int (i : Int))))
      have e0 : (0 : Int) + (i : Int) = (i : Int) := Int.zero_add _
      rw [e0]
      refine turn i (N1 + c * (i : Int)) (by omega) (cm i (by omega)) B' H2 _ gg.bh E2 k' _ fun y d B3 H3 m3 k3 hd ry => ?_
      have el3 : H3 l = some (.lst acc) := m3.kk _ _ nl el
      have b3 : B3 l = none := m3.nw _ _ el b'
      refine ⟨acc, el3, Nat.lt_of_le_of_lt (by rw [RpAll.len ra, ln]; omega : acc.length ≤ 1000) (by decide), B3, acc ++ [y], ds ++ [d], (gg.trans m3).own hl b3, upd_same, b3, RpAll.append (dpa_mono m3.bb ra) (dpa_one ry), by simp [ln], fun e he => ?_, ?_⟩
      · rcases List.mem_append.mp he with h | h
        · exact hs e h
        · rw [List.mem_singleton.mp h]; exact hd
      · have k4 := k3.put (o := .lst (acc ++ [y])) nl
        have e1 : N1 + c * (i : Int) + c = N1 + c * ((i + 1 : Nat) : Int) := by rw [Int.natCast_add, Int.mul_add]; omega
        rw [e1] at k4
        exact k4
  · rintro H' ⟨B', acc, ds, gg, el, b', ra, ln, hs, k'⟩
    exact q l acc ds B' H' (m1.trans gg) (k'.weak (cm n (Nat.le_refl _))) (m1.dom _ hl) b' el ra (by omega) (by omega) hs
end
end K45
-- BK
set_option maxHeartbeats 4000000
namespace K45
open PySem PySem.Spec PyProof.Rows L2
open Evl (Ex ex_rd ex_l ex_t)
section
variable {P : Program} {w : World} {K : PySem.W.Frag} {mg : Str → Option Value} {base : Heap}
/-! ### _law_deck -/
def spDeck (K : PySem.W.Frag) : Sp := fun vs H Q _ => ∃ a, ∃ nums_ : List Int, vs = [.ref a] ∧ SqL K H a (nums_.map V.int) ∧ nums_.length ≤ 100000 ∧ ∀ D Cl B' H', Ex H H' → Ex B' H' → H D = none → H Cl = none → Dk D Cl 0 B' H' → Q (.ref D) H'
/-- a part of the script, whosever it is -/
theorem m_sltV {K : PySem.W.Frag} {F : Fx} {L : List Sl} {ta : TE} {tl th : TO} {lo hi : Option Int} {a : Addr} {nums_ : List Int} (hF : ∀ H0 B0, F H0 B0 → SqL K H0 a (nums_.map V.int)) (ha : EvE F ta L (.v (.ref a))) (hl : EvO F tl L lo) (hh : EvO F th L hi) : EvM F (tSl (rSlU K) ta tl th) L (cutD (nums_.map PyData.int) lo hi) := by
  intro H0 B0 B H σ f g E Q q
  refine ha H0 B0 B H σ f g E _ fun v B1 H1 g1 o1 => ?_
  refine hl H0 B0 B1 H1 σ f (g.trans g1) (E.mono g1) _ fun B2 H2 g2 => ?_
  refine hh H0 B0 B2 H2 σ f ((g.trans g1).trans g2) ((E.mono g1).mono g2) _ fun B3 H3 g3 => ?_
  obtain rfl : v = .ref a := o1
  have gg := (g1.trans g2).trans g3
  exact .inr (.inl ⟨a, nums_.map V.int, rfl, ex_l (g.trans gg).hh (hF _ _ f), fun p hp => q p _ B3 _ (gg.trans (Grow.side gg.bh hp)) (Evl.fresh_back gg.hh hp) (Evl.fresh_back gg.bh hp) upd_same (cut_rp (RpAll.of_ints nums_))⟩)
abbrev s_law_deck : Stmt := top 72
abbrev n_law_deck : List Str := ["_law_script", "_law_cell"]
theorem sc_law_deck : FnScope n_law_deck ["_law_script"] (defScope s_law_deck) := ⟨rfl, rfl, rfl, by decide +kernel, rfl, by decide +kernel, by decide +kernel⟩
theorem cps_retLstM {F : Fx} {L : List Sl} {ta : TE} {y : V} {xs : List PyData} {B H : Hp} {σ : St} {Dn : Ends} (f : F H B) (eb : Ex B H) (E : Env H B H σ L) (h : EvM F ta L xs)
    (q : ∀ l vs B' H' p, Grow B H B' H' → H l = none → B' l = none → H' l = some (.lst vs) → RpAll B' vs xs → H' p = none → Dn.rt (.ref p) (upd H' p (.lst [.ref l, y]))) : tRet (tLst (tCons ta (tCons (tC y) tNil))) Dn σ H :=
  h H B B H σ f (.rfl' eb) E _ fun l vs B1 H1 g1 hl bl el ra => ⟨(by decide : (2 : Nat) ≤ sizeLine), fun p hp => q l vs B1 H1 p g1 hl bl el ra hp⟩
theorem f_law_deck (G : Gs K mg) (D : DefF K mg "_law_deck" s_law_deck) : C8.Cal P w K mg base 1 "_law_deck" (spDeck K) [] := by
  obtain ⟨f, fd, Fn, m⟩ := D
  have sc := sc_law_deck
  refine ⟨f, fd, ["_law_script"], [], ?_, m, Fn.kp, Fn.binds (fun _ _ _ _ _ _ us hl => match us, hl with | [_], _ => rfl), .nil⟩
  refine Fn.ok sc (fun vs H Q E h => ?_) (fun cdv A outer s H vs Q E hr h => ?_)
  · obtain ⟨a, nums_, rfl, _⟩ := h
    rfl
  have hu := hr.units
  refine ⟨_, (pss_one (ps_ret (pe_lst (pa_cons (pe_lc (own := [("_law_cell", 1)]) (g := gName 1) rfl sc.nd (pi_list (pe_slice (kx_sl G) (pv 0) po_none (po_some pe_int))) (blkOk_by (own := [("_law_cell", 1)]) (N := n_law_deck) (sc := defScope s_law_deck) (by decide +kernel)) (fun _ _ _ _ _ => (pg_name (i := 1) sc.nd rfl (Or.inl rfl))) (fun _ _ _ _ _ => pts_nil) (fun _ _ _ _ _ => (u_abs G (pa_cons (pv 1) pa_nil)))) (pa_cons pe_int pa_nil))))), ?_⟩
  obtain ⟨a, nums_, rfl, sq, hlen, q⟩ := h
  have eb : Ex (fun _ => none) H := fun _ _ e => nomatch e
  have E0 : Env H (fun _ => none) H (L2.start n_law_deck [.ref a]) (startT n_law_deck a []) := env_startT .nil
  refine cps_retLstM (F := fun H0 _ => SqL K H0 a (nums_.map V.int)) (xs := ((nums_.take 63).map fun i => (if i < 0 then -i else i : Int)).map PyData.int) sq eb E0 (m_lcm (it_list (m_sltV (nums_ := nums_) (lo := none) (hi := some 63) (fun _ _ h => h) (e_var rfl) o_none (o_some e_int)).d) (js := [1]) (rs := ((nums_.take 63).map fun i => (if i < 0 then -i else i : Int)).map PyData.int) ?_ (by simp) (fun i d r hd hr => ?_) ?_) fun l vs B1 H1 p g1 hl bl el ra hp => ?_
  · have := cutD_to PyData.int nums_ 63
    rw [show ((63 : Nat) : Int) = 63 from rfl] at this
    rw [this]; simp
  · have := cutD_to PyData.int nums_ 63
    rw [show ((63 : Nat) : Int) = 63 from rfl] at this
    rw [this] at hd
    obtain ⟨x, hx, rfl⟩ := map_inv hd
    rw [List.map_map] at hr
    have e := map_get (f := PyData.int ∘ fun i => (if i < 0 then -i else i : Int)) hx hr
    subst e
    exact ⟨[.int x], g_name, c_abs (a_cons (e_var rfl) a_nil)⟩
  · have := cutD_to PyData.int nums_ 63
    rw [show ((63 : Nat) : Int) = 63 from rfl] at this
    rw [this]; simp; omega
  · have g2 : Grow B1 H1 B1 (upd H1 p (.lst [.ref l, .int 0])) := Grow.side g1.bh hp
    have np : l ≠ p := fun z => by rw [z, hp] at el; cases el
    have ev := RpAll.ints ra
    subst ev
    refine q p l B1 _ (g1.trans g2).hh (g1.trans g2).bh (ex_none g1.hh hp) hl ⟨np.symm, Evl.fresh_back g1.bh hp, bl, 0, _, upd_same, by rw [upd_ne np]; exact el, by omega, by omega, fun c hc => ?_⟩
    obtain ⟨i, _, rfl⟩ := List.mem_map.mp hc
    show 0 ≤ (if i < 0 then -i else i)
    split <;> omega
/-! ### _law_road -/
/-- what the law draws as a road -/
structure DrawnR (w r : Int) (bs : List Int) : Prop where
  w : 0 ≤ w ∧ w ≤ 1000
  r : 0 ≤ r ∧ r ≤ 1000
  n : 1 ≤ bs.length ∧ bs.length ≤ 12
  b : ∀ b ∈ bs, 0 ≤ b ∧ b ≤ 100
def spLr : Sp := fun vs H Q _ => ∃ B D Cl N, Ex B H ∧ vs = [.ref D, .int 12] ∧ Dk D Cl N B H ∧ N ≤ 100000 ∧ ∀ v w r bs B' H', GrowM (MD D Cl) B H B' H' → Dk D Cl (N + 40) B' H' → DrawnR w r bs → Rp B' v (roadD w r bs) → Q v H'
abbrev s_law_road : Stmt := top 74
abbrev n_law_road : List Str := ["_law_deck_here", "_law_stages", "_law_ride", "_law_walk", "_law_way", "_law_n", "_law_bikes", "_law_k"]
theorem sc_law_road : FnScope n_law_road ["_law_deck_here", "_law_stages"] (defScope s_law_road) := ⟨rfl, rfl, rfl, by decide +kernel, rfl, by decide +kernel, by decide +kernel⟩
theorem i_drw {D Cl : Addr} {L : List Sl} {N N1 : Int} {i : Nat} {E' : XK} {te : TE} (hi m : Int) (he : hi = m + 1) (hd : L[i]? = some (.v (.ref D))) (hm : EvI D Cl te L N N1 (In 1 hi)) (hh : hi < 1073741824) (hN : N1 ≤ 1000000) : EvI D Cl (tCall spDw [] E' (tCons (tVar i) (tCons te tNil))) L N (N1 + 1) (In 0 m) :=
  i_imp (i_draw hd hm hh hN) fun x ⟨j, h, a, b⟩ => ⟨j, h, by omega, by omega⟩
theorem dr_arg {D Cl : Addr} {K : PySem.W.Frag} {L : List Sl} {N : Int} {lo hi : Int} {E' : XK} {ta : TE} {tb : TE} (hf : Flat L) (hd : L[0]? = some (.v (.ref D))) (h1 : 1 ≤ lo) (h2 : lo ≤ hi) (h3 : hi < 1073741824) (hN : N ≤ 900000) (ha : EvE Tr0 ta L (.d (.int lo))) (hb : EvE Tr0 tb L (.d (.int hi))) :
    EvI D Cl (tOp (rIx K) (tLst (tCons ta (tCons tb tNil))) (tCall spDw [] E' (tCons (tVar 0) (tCons (tC (.int 2)) tNil)))) L N (N + 1) (In 1 hi) := by
  refine i_op (s1 := fun x => x = .list [.int lo, .int hi]) (s2 := In 0 1) hf (i_pure (m_lst (ds := [.int lo, .int hi]) (a_cons ha (a_cons hb a_nil)) (by simp)).d rfl) (i_drw 2 1 rfl hd (i_pure e_int ⟨2, rfl, by omega, by omega⟩) (by omega) (by omega)) fun x y hx hy => ?_
  subst hx
  obtain ⟨i, rfl, i0, i1⟩ := hy
  rcases (show i = 0 ∨ i = 1 by omega) with rfl | rfl
  · exact ⟨_, ⟨lo, rfl, h1, h2⟩, e_ix (xs := [.int lo, .int hi]) (e_var rfl) (.inl rfl) (e_var rfl) rfl⟩
  · exact ⟨_, ⟨hi, rfl, by omega, by omega⟩, e_ix (xs := [.int lo, .int hi]) (e_var rfl) (.inl rfl) (e_var rfl) rfl⟩
theorem i_eqN {D Cl : Addr} {L : List Sl} {N M M' : Int} {te : TE} {s : PyData → Prop} (e : M = M') (h : EvI D Cl te L N M s) : EvI D Cl te L N M' s := e ▸ h
/-- d + e, both within bounds -/
theorem i_add {D Cl : Addr} {K : PySem.W.Frag} {L : List Sl} {N N1 N2 a b c d : Int} {ta tb : TE} (hf : Flat L) (ha : EvI D Cl ta L N N1 (In a b)) (hb : EvI D Cl tb L N1 N2 (In c d)) : EvI D Cl (tOp (rAddU K) ta tb) L N N2 (In (a + c) (b + d)) :=
  i_op hf ha hb fun x y ⟨i, hx, i0, i1⟩ ⟨j, hy, j0, j1⟩ => by
    subst hx hy
    exact ⟨_, ⟨i + j, rfl, by omega, by omega⟩, e_add (e_var rfl) (e_var rfl)⟩
theorem f_law_road (G : Gs K mg) (c_law_draw : C8.Cal P w K mg base 1 "_law_draw" spDw []) (D : DefF K mg "_law_road" s_law_road) : C8.Cal P w K mg base 2 "_law_road" spLr [] := by
  obtain ⟨f, fd, Fn, m⟩ := D
  have sc := sc_law_road
  refine ⟨f, fd, ["_law_deck_here", "_law_stages"], [], ?_, m, Fn.kp, Fn.binds (fun _ _ _ _ _ _ us hl => match us, hl with | [_, _], _ => rfl), .nil⟩
  refine Fn.ok sc (fun vs H Q E h => ?_) (fun cdv A outer s H vs Q E hr h => ?_)
  · obtain ⟨B, D, Cl, N, _, rfl, _⟩ := h
    rfl
  have hu := hr.units
  refine ⟨_, (pss_cons (ps_set (i := 2) sc.nd rfl (Or.inl rfl) (pe_op (kx_add G) pe_int (C8.pe_c c_law_draw hr (by decide) (by rfl) (pa_cons (pv 0) (pa_cons (pe_ix (kx_ix G) (pe_lst (pa_cons pe_int (pa_cons pe_int pa_nil))) (C8.pe_c c_law_draw hr (by decide) (by rfl) (pa_cons (pv 0) (pa_cons pe_int pa_nil))) (fun _ _ => rfl)) pa_nil)))))
      (pss_cons (ps_set (i := 3) sc.nd rfl (Or.inl rfl) (u_min2 G (pa_cons pe_int (pa_cons (pe_op (kx_add G) (pe_op (kx_add G) (pv 2) pe_int) (C8.pe_c c_law_draw hr (by decide) (by rfl) (pa_cons (pv 0) (pa_cons (pe_ix (kx_ix G) (pe_lst (pa_cons pe_int (pa_cons pe_int pa_nil))) (C8.pe_c c_law_draw hr (by decide) (by rfl) (pa_cons (pv 0) (pa_cons pe_int pa_nil))) (fun _ _ => rfl)) pa_nil)))) pa_nil))))
      (pss_cons (ps_asg (pe_tup (pa_cons (C8.pe_c c_law_draw hr (by decide) (by rfl) (pa_cons (pv 0) (pa_cons pe_int pa_nil))) (pa_cons (pe_op (kx_add G) pe_int (C8.pe_c c_law_draw hr (by decide) (by rfl) (pa_cons (pv 0) (pa_cons (pv 1) pa_nil)))) pa_nil))) (pg_tup (by rfl) (pgs_cons (pg_name (i := 4) sc.nd rfl (Or.inr rfl)) (pgs_cons (pg_name (i := 5) sc.nd rfl (Or.inl rfl)) pgs_nil))))
      (pss_cons (ps_setLc (i := 6) (own := [("_law_k", 7)]) (g := gName 7) rfl sc.nd rfl rfl (sw_true rfl rfl rfl (by decide +kernel)) (u_range1 G (pa_cons (pv 5) pa_nil)) (blkOk_by (own := [("_law_k", 7)]) (N := n_law_road) (sc := defScope s_law_road) (by decide +kernel)) (fun _ _ _ _ _ => (pg_name (i := 7) sc.nd rfl (Or.inl rfl))) (fun _ _ _ _ _ => pts_nil) (fun _ _ _ _ _ => (pe_ix (kx_ix G) (pe_lst (pa_cons (C8.pe_c c_law_draw hr (by decide) (by rfl) (pa_cons (pv 0) (pa_cons pe_int pa_nil))) (pa_cons (C8.pe_c c_law_draw hr (by decide) (by rfl) (pa_cons (pv 0) (pa_cons pe_int pa_nil))) (pa_cons pe_int pa_nil)))) (pv 4) (fun _ _ => rfl))))
      (pss_cons (ps_if (pt_cmpR (kx_eq G hu) (pv 4) pe_int (nomark _)) (pss_one (ps_asg (pe_op (kx_add G) pe_int (C8.pe_c c_law_draw hr (by decide) (by rfl) (pa_cons (pv 0) (pa_cons pe_int pa_nil)))) (pg_sub (pv 6) pe_int set_list))) pss_nil)
      (pss_one (ps_ret (pe_tup (pa_cons (pv 3) (pa_cons (pv 2) (pa_cons (u_tuple G (pa_cons (pv 6) pa_nil)) pa_nil))))))))))), ?_⟩
  obtain ⟨B, D, Cl, N, eb, rfl, k0, hN, q⟩ := h
  have E0 : Env H B H (L2.start n_law_road [.ref D, .int 12]) [.v (.ref D), .d (.int 12), .u, .u, .u, .u, .u, .u] := env_startT (dpa_one (.int 12))
  -- ride
  refine cps_asgI (s := In 1 999) (i_imp (i_add (b := 1) (a := 1) (by rfl) (i_pure e_int ⟨1, rfl, by omega, by omega⟩) (i_draw rfl (dr_arg (lo := 5) (hi := 999) (by rfl) rfl (by omega) (by omega) (by omega) (by omega) e_int e_int) (by omega) (by omega))) fun x ⟨i, h, h1, h2⟩ => ⟨i, h, by omega, by omega⟩) (by rfl) eb E0 k0 fun x1 B1 H1 σ1 m1 k1 hx1 E1 => ?_
  obtain ⟨ride, rfl, r1, r2⟩ := hx1
  -- walk
  refine cps_asgI (s := In 0 1000) (i_call2 (s1 := In 1000 1000) (s2 := In 2 2500) (by rfl) (i_pure e_int ⟨1000, rfl, by omega, by omega⟩) (i_imp (i_add (by rfl) (i_pure (s := In (ride + 1) (ride + 1)) (e_add (e_var rfl) e_int) ⟨_, rfl, by omega, by omega⟩) (i_draw rfl (dr_arg (lo := 6) (hi := 1000) (by rfl) rfl (by omega) (by omega) (by omega) (by omega) e_int e_int) (by omega) (by omega))) fun x ⟨i, h, h1, h2⟩ => ⟨i, h, by omega, by omega⟩) fun x y ⟨i, hx, i0, i1⟩ ⟨j, hy, j0, j1⟩ => by
    subst hx hy
    exact ⟨_, ⟨_, rfl, by split <;> omega, by split <;> omega⟩, c_min2 (i := i) (j := j) (a_cons (e_var rfl) (a_cons (e_var rfl) a_nil))⟩) (by rfl) m1.bh E1 k1 fun x2 B2 H2 σ2 m2 k2 hx2 E2 => ?_
  obtain ⟨walk, rfl, w1, w2⟩ := hx2
  -- way, n
  refine cps_asgI2 (s1 := In 0 2) (s2 := In 1 12) (i_drw 3 2 rfl rfl (i_pure e_int ⟨3, rfl, by omega, by omega⟩) (by omega) (by omega)) (i_imp (i_add (a := 1) (b := 1) (by rfl) (i_pure e_int ⟨1, rfl, by omega, by omega⟩) (i_draw (hi := 12) rfl (i_pure (e_var rfl) ⟨12, rfl, by omega, by omega⟩) (by omega) (by omega))) fun x ⟨i, h, h1, h2⟩ => ⟨i, h, by omega, by omega⟩) (by rfl) m2.bh E2 k2 fun x3 y3 B3 H3 σ3 m3 k3 hx3 hy3 E3 => ?_
  obtain ⟨way, rfl, y1, y2⟩ := hx3
  obtain ⟨cnt, rfl, n1, n2⟩ := hy3
  -- bikes
  refine cps_seqE (i_lc (s := In 0 100) (c := 2) (mx := 12) (N := N + 1 + 1 + 1 + 1 + 1 + 1) (N1 := N + 1 + 1 + 1 + 1 + 1 + 1) (L := [.v (.ref D), .d (.int 12), .d (.int ride), .d (.int walk), .d (.int way), .d (.int cnt), .u, .u]) (by omega) (by omega) rfl (i_pure (e_var rfl) ⟨cnt, rfl, by omega, by omega⟩) (fun kk M hk hM => ?_) m3.bh E3 k3 fun l vs ds B4 H4 m4 k4 hl b4 el4 ra4 ln1 ln2 hds => ?_)
  · refine i_op (s1 := fun l => ∃ x y z, l = .list [x, y, z] ∧ In 0 1 x ∧ In 0 3 y ∧ In 0 0 z) (s2 := In 0 2) (N1 := M + 1 + 1) (by rfl) (i_lst3 (by rfl) (i_drw 2 1 rfl rfl (i_pure e_int ⟨2, rfl, by omega, by omega⟩) (by omega) (by omega)) (i_drw 4 3 rfl rfl (i_pure e_int ⟨4, rfl, by omega, by omega⟩) (by omega) (by omega)) (i_pure e_int ⟨0, rfl, by omega, by omega⟩)) (i_eqN (by omega) (i_pure (e_var rfl) ⟨way, rfl, by omega, by omega⟩)) fun x y hx hy => ?_
    obtain ⟨a, b, c, rfl, ⟨i, rfl, i0, i1⟩, ⟨j, rfl, j0, j1⟩, ⟨k, rfl, k0, k1⟩⟩ := hx
    obtain ⟨z, rfl, z0, z1⟩ := hy
    rcases (show z = 0 ∨ z = 1 ∨ z = 2 by omega) with rfl | rfl | rfl
    · exact ⟨_, ⟨i, rfl, by omega, by omega⟩, e_ix (xs := [.int i, .int j, .int k]) (e_var rfl) (.inl rfl) (e_var rfl) rfl⟩
    · exact ⟨_, ⟨j, rfl, by omega, by omega⟩, e_ix (xs := [.int i, .int j, .int k]) (e_var rfl) (.inl rfl) (e_var rfl) rfl⟩
    · exact ⟨_, ⟨k, rfl, by omega, by omega⟩, e_ix (xs := [.int i, .int j, .int k]) (e_var rfl) (.inl rfl) (e_var rfl) rfl⟩
  have mm := ((m1.trans m2).trans m3).trans m4
  have nl : ¬ MD D Cl l := k3.notin hl
  have hl0 : H l = none := ((m1.trans m2).trans m3).dom _ hl
  have E4 : Env H4 B4 H4 (σ3.set 6 (some (.ref l))) [.v (.ref D), .d (.int 12), .d (.int ride), .d (.int walk), .d (.int way), .d (.int cnt), .v (.ref l), .u] := (E3.flatB (H0' := H4) (H' := H4) rfl m4.bb).set (i := 6) (s := .v (.ref l)) rfl rfl
  have hl6 : (σ3.set 6 (some (.ref l)))[6]? = some (some (.ref l)) := by
    rcases E4.at_ 6 _ rfl with z | ⟨v, hv, o⟩
    · cases z
    · rw [hv, show v = .ref l from o]
  generalize σ3.set 6 (some (.ref l)) = σ4 at E4 hl6
  -- the last way
  refine cps_joinH (fun σ' H' => ∃ B' vs' ds', GrowM (MD D Cl) B H B' H' ∧ Dk D Cl (N + 40) B' H' ∧ Env H' B' H' σ' [.v (.ref D), .d (.int 12), .d (.int ride), .d (.int walk), .d (.int way), .d (.int cnt), .v (.ref l), .u] ∧ H' l = some (.lst vs') ∧ RpAll B' vs' ds' ∧ 1 ≤ ds'.length ∧ ds'.length ≤ 12 ∧ ∀ d ∈ ds', In 0 100 d) ?tail fun tail => ?main
  case main =>
    refine EvT.go (F := Tr0) (t_test (e_eqI (i := way) (j := 2) (e_var rfl) e_int)) trivial m4.bh E4 fun B5 H5 g5 => ?_
    have k5 := k4.grow g5
    have E5 := E4.flatB (H0' := H5) (H' := H5) rfl g5.bb
    have el5 := g5.hh _ _ el4
    have b5 : B5 l = none := g5.nw _ _ el4 b4
    have ra5 := dpa_mono g5.bb ra4
    by_cases hw : way = 2
    · refine if_yes (decide_eq_true hw) ?_
      refine i_add (a := 1) (b := 1) (c := 0) (d := 2) (by rfl) (i_pure e_int ⟨1, rfl, by omega, by omega⟩) (i_drw 3 2 rfl rfl (i_pure e_int ⟨3, rfl, by omega, by omega⟩) (by omega) (by omega)) B5 H5 σ4 g5.bh E5 k5 _ fun v x B6 H6 m6 k6 hx rx => ?_
      obtain ⟨i, rfl, i0, i1⟩ := hx
      have el6 : H6 l = some (.lst vs) := m6.kk _ _ nl el5
      have b6 : B6 l = none := m6.nw _ _ el5 b5
      have ra6 := dpa_mono m6.bb ra5
      refine ⟨.ref l, hl6, l, vs, 0, 0, rfl, rfl, el6, ?_, ?_⟩
      · rw [RpAll.len ra6]; exact ixN_nat (j := 0) (by omega)
      · refine tail _ _ ⟨B6, vs.set 0 v, ds.set 0 (.int i), (mm.trans (g5.toM.trans m6)).own hl0 b6, (k6.put nl).weak (by omega), E5.flatB rfl m6.bb, upd_same, RpAll.set rx 0 ra6, by simp; omega, by simp; omega, fun d hd => ?_⟩
        rcases List.mem_or_eq_of_mem_set hd with h | h
        · exact hds d h
        · exact ⟨i, h, by omega, by omega⟩
    · refine if_no (decide_eq_false hw) ?_
      exact tail _ _ ⟨B5, vs, ds, mm.trans g5.toM, k5.weak (by omega), E5, el5, ra5, ln1, ln2, hds⟩
  case tail =>
    rintro σ' H' ⟨B', vs', ds', mg', k', E', el', ra', z1, z2, hd'⟩
    obtain ⟨bs, rfl⟩ : ∃ bs : List Int, ds' = bs.map PyData.int := by
      clear ra' z1 z2
      induction ds' with
      | nil => exact ⟨[], rfl⟩
      | cons d ds ih =>
        obtain ⟨bs, e⟩ := ih fun x hx => hd' x (List.mem_cons_of_mem _ hx)
        obtain ⟨i, rfl, _⟩ := hd' d List.mem_cons_self
        exact ⟨i :: bs, by rw [List.map_cons, e]⟩
    refine EvE.go (F := fun H0 B0 => Holds B0 H0 l (bs.map PyData.int)) (e_tup (ds := [.int walk, .int ride, intsD bs]) (a_cons (e_var rfl) (a_cons (e_var rfl) (a_cons (c_ttup (l := l) (fun _ _ h => h) (a_cons (e_var rfl) a_nil)) a_nil))) (by simp)) ⟨vs', el', ra'⟩ mg'.bh E' fun v B9 H9 g9 o9 => ?_
    refine q v walk ride bs B9 H9 (mg'.trans g9.toM) (k'.grow g9) ⟨⟨w1, w2⟩, ⟨by omega, by omega⟩, ⟨by simpa using z1, by simpa using z2⟩, fun b hb => ?_⟩ o9
    obtain ⟨i, e, i0, i1⟩ := hd' (.int b) (List.mem_map.mpr ⟨b, hb, rfl⟩)
    cases e
    exact ⟨i0, i1⟩
/-! ### _law_starts -/
def spLs : Sp := fun vs H Q _ => ∃ B D Cl N, Ex B H ∧ vs = [.ref D, .int 10] ∧ Dk D Cl N B H ∧ N ≤ 100000 ∧ ∀ v ss B' H', GrowM (MD D Cl) B H B' H' → Dk D Cl (N + 40) B' H' → (1 ≤ ss.length ∧ ss.length ≤ 10) → (∀ t ∈ ss, 0 ≤ t ∧ t ≤ 1000000) → Rp B' v (intsD ss) → Q v H'
abbrev s_law_starts : Stmt := top 75
abbrev n_law_starts : List Str := ["_law_deck_here", "_law_most", "_law_way", "_law_late", "_law_k"]
theorem sc_law_starts : FnScope n_law_starts ["_law_deck_here", "_law_most"] (defScope s_law_starts) := ⟨rfl, rfl, rfl, by decide +kernel, rfl, by decide +kernel, by decide +kernel⟩
theorem ints_of {lo hi : Int} : ∀ {ds : List PyData}, (∀ d ∈ ds, In lo hi d) → ∃ bs : List Int, ds = bs.map PyData.int ∧ ∀ b ∈ bs, lo ≤ b ∧ b ≤ hi
  | [], _ => ⟨[], rfl, fun b h => by cases h⟩
  | d :: ds, h => by
    obtain ⟨bs, e, hb⟩ := ints_of fun x hx => h x (List.mem_cons_of_mem _ hx)
    obtain ⟨i, rfl, i0, i1⟩ := h d List.mem_cons_self
    refine ⟨i :: bs, by rw [List.map_cons, e], fun b hm => ?_⟩
    rcases List.mem_cons.mp hm with h | h
    · subst h; exact ⟨i0, i1⟩
    · exact hb b h
theorem cps_retCB1 {te : TE} {r : List V → Hp → VK → Prop} {Dn : Ends} {σ : St} {H : Hp} (h : te σ H fun v H1 => r [v] H1 Dn.rt) : tRet (tCB r (tCons te tNil)) Dn σ H := h
theorem f_law_starts (G : Gs K mg) (c_law_draw : C8.Cal P w K mg base 1 "_law_draw" spDw []) (D : DefF K mg "_law_starts" s_law_starts) : C8.Cal P w K mg base 2 "_law_starts" spLs [] := by
  obtain ⟨f, fd, Fn, m⟩ := D
  have sc := sc_law_starts
  refine ⟨f, fd, ["_law_deck_here", "_law_most"], [], ?_, m, Fn.kp, Fn.binds (fun _ _ _ _ _ _ us hl => match us, hl with | [_, _], _ => rfl), .nil⟩
  refine Fn.ok sc (fun vs H Q E h => ?_) (fun cdv A outer s H vs Q E hr h => ?_)
  · obtain ⟨B, D, Cl, N, _, rfl, _⟩ := h
    rfl
  have hu := hr.units
  refine ⟨_, (pss_cons (ps_asg (pe_tup (pa_cons (C8.pe_c c_law_draw hr (by decide) (by rfl) (pa_cons (pv 0) (pa_cons pe_int pa_nil))) (pa_cons (pe_lst (pa_cons pe_int (pa_cons pe_int (pa_cons (pe_op (kx_add G) (pe_op op_pow pe_int pe_int) pe_int) pa_nil)))) pa_nil))) (pg_tup (by rfl) (pgs_cons (pg_name (i := 2) sc.nd rfl (Or.inr rfl)) (pgs_cons (pg_name (i := 3) sc.nd rfl (Or.inr rfl)) pgs_nil))))
      (pss_one (ps_ret (u_tuple G (pa_cons (pe_lc (own := [("_law_k", 4)]) (g := gName 4) rfl sc.nd (u_range1 G (pa_cons (pe_op (kx_add G) pe_int (C8.pe_c c_law_draw hr (by decide) (by rfl) (pa_cons (pv 0) (pa_cons (pv 1) pa_nil)))) pa_nil)) (blkOk_by (own := [("_law_k", 4)]) (N := n_law_starts) (sc := defScope s_law_starts) (by decide +kernel)) (fun _ _ _ _ _ => (pg_name (i := 4) sc.nd rfl (Or.inl rfl))) (fun _ _ _ _ _ => pts_nil) (fun _ _ _ _ _ => (C8.pe_c c_law_draw hr (by decide) (by rfl) (pa_cons (pv 0) (pa_cons (pe_ix (kx_ix G) (pv 3) (pv 2) (fun _ _ => rfl)) pa_nil))))) pa_nil))))), ?_⟩
  obtain ⟨B, D, Cl, N, eb, rfl, k0, hN, q⟩ := h
  have E0 : Env H B H (L2.start n_law_starts [.ref D, .int 10]) [.v (.ref D), .d (.int 10), .u, .u, .u] := env_startT (dpa_one (.int 10))
  refine cps_asgI2 (s1 := In 0 2) (s2 := fun x => x = .list [.int 1, .int 30, .int 1000001]) (i_drw 3 2 rfl rfl (i_pure e_int ⟨3, rfl, by omega, by omega⟩) (by omega) (by omega)) (i_pure (m_lst (ds := [.int 1, .int 30, .int 1000001]) (a_cons e_int (a_cons e_int (a_cons ((e_add (i := 1000000) (j := 1) ((e_pow (i := 10) (j := 6) e_int e_int (by unfold CPow; decide)).is rfl) e_int).is rfl) a_nil))) (by simp)).d rfl) (by rfl) eb E0 k0 fun x3 y3 B3 H3 σ3 m3 k3 hx3 hy3 E3 => ?_
  obtain ⟨way, rfl, y1, y2⟩ := hx3
  subst hy3
  refine cps_retCB1 (i_lc (s := In 0 1000000) (c := 1) (mx := 10) (N := N + 1) (N1 := N + 1 + 1) (L := [.v (.ref D), .d (.int 10), .d (.int way), .d (.list [.int 1, .int 30, .int 1000001]), .u]) (by omega) (by omega) rfl (i_imp (i_add (a := 1) (b := 1) (by rfl) (i_pure e_int ⟨1, rfl, by omega, by omega⟩) (i_draw (i := 0) (hi := 10) rfl (i_pure (e_var (i := 1) rfl) ⟨10, rfl, by omega, by omega⟩) (by omega) (by omega))) fun x ⟨i, h, h1, h2⟩ => ⟨i, h, by omega, by omega⟩) (fun kk M hk hM => ?_) m3.bh E3 k3 fun l vs ds B4 H4 m4 k4 hl b4 el4 ra4 ln1 ln2 hds => ?_)
  · refine i_imp (i_draw (hi := 1000001) rfl (i_pure (s := In 1 1000001) (x := .int (if way = 0 then 1 else if way = 1 then 30 else 1000001)) ?_ ⟨_, rfl, by split <;> (try split) <;> omega, by split <;> (try split) <;> omega⟩) (by omega) (by omega)) fun x ⟨i, h, h1, h2⟩ => ⟨i, h, by omega, by omega⟩
    refine e_ix (xs := [.int 1, .int 30, .int 1000001]) (i := way) (e_var rfl) (.inl rfl) (e_var rfl) ?_
    rcases (show way = 0 ∨ way = 1 ∨ way = 2 by omega) with rfl | rfl | rfl <;> rfl
  · obtain ⟨ss, rfl, hss⟩ := ints_of hds
    have g5 : ∀ p, H4 p = none → Grow B4 H4 (upd B4 p (.tup vs)) (upd H4 p (.tup vs)) := fun p hp => Grow.put m4.bh hp
    refine ⟨l, vs, rfl, .inl ⟨SqL.of el4, fun p hp => ?_⟩⟩
    exact q _ ss _ _ ((m3.trans m4).trans (g5 p hp).toM) ((k4.grow (g5 p hp)).weak (by omega)) ⟨by simpa using ln1, by simpa using ln2⟩ hss (.tup upd_same (dpa_mono (g5 p hp).bb ra4))
end
end K45
-- BL
set_option maxHeartbeats 4000000
namespace K45
open PySem PySem.Spec PyProof.Rows L2
open Evl (Ex ex_rd ex_l ex_t)
/-! ### what isinstance asks of the class -/
structure TripI (K : PySem.W.Frag) (mg : Str → Option Value) (C : Addr) : Prop where
  gC : mg "Trip" = some (.ref C)
  ha : PySem.W.findIn K (.ref C) "__class__" = some (some (.builtin "object.__class__"))
  hn : PySem.W.specialIn K (.builtin "object.__class__") "__get__" = some (some (.builtin "getset_descriptor.__get__"))
  ht : PySem.W.takesIn K (.builtin "object.__class__") = some true
  hm : PySem.W.mroIn K C (.type "object") = some true
  own : PySem.W.kitOne K (.ref C) (.ref C) = some true
  lst : PySem.W.kitOne K (.ref C) (.type "list") = some false
theorem c_isiT {K : PySem.W.Frag} {mg : Str → Option Value} {F : Fx} {L : List Sl} {tr : TA} {C t ls lf le : Addr} {sts fins eds : List PyData} {c : V} {u : Value} {b : Bool} (tc : TripC K C) (ti : TripI K mg C) (hF : ∀ H0 B0, F H0 B0 → TripS C B0 H0 t ls lf le sts fins eds) (h : EvA F tr L [.v (.ref t), .v c]) (hc : ClsV c u) (hb : PySem.W.kitOne K (.ref C) u = some b) : EvE F (tCB (rIsiU K) tr) L (.d (.bool b)) := fun H0 B0 B H σ f0 g E Q q =>
  h H0 B0 B H σ f0 g E _ fun vs B1 H1 g1 o1 => by
    obtain ⟨v, w, rfl, o, o2⟩ := ok2 o1
    obtain rfl : v = .ref t := o
    obtain rfl : w = c := o2
    obtain ⟨dx, e⟩ := (hF H0 B0 f0).ins
    exact .inl ⟨.ref t, w, .ref C, u, b, rfl, hc, .base (.ins ((g.trans g1).hh _ _ e) tc.cls ti.ha ti.hn ti.ht ti.hm), hb, q _ B1 H1 g1 (.bl _)⟩
/-! ### f-strings -/
section
variable {F : Fx} {L : List Sl} {te : TE}
theorem e_fmtI {i : Int} (h : EvE F te L (.d (.int i))) (hi : Small i) : EvE F (tFmt te) L (.d (.str (numS i))) := fun H0 B0 B H σ f g E Q q =>
  h H0 B0 B H σ f g E _ fun v B1 H1 g1 o1 => .inr ⟨i, dp_int o1, small_log hi, q _ B1 H1 g1 (.str _)⟩
theorem e_fmtS {x : Str} (h : EvE F te L (.d (.str x))) (hz : x.length ≤ 1000) : EvE F (tFmt te) L (.d (.str x)) := fun H0 B0 B H σ f g E Q q =>
  h H0 B0 B H σ f g E _ fun v B1 H1 g1 o1 => .inl ⟨x, dp_str o1, Nat.le_trans hz (by decide), q _ B1 H1 g1 (.str _)⟩
inductive EvJ (F : Fx) (L : List Sl) : List TE → List Str → Prop
  | nil : EvJ F L [] []
  | cons {t : TE} {ts : List TE} {y : Str} {ys : List Str} (h : EvE F t L (.d (.str y))) (r : EvJ F L ts ys) : EvJ F L (t :: ts) (y :: ys)
def catS : Str → List Str → Str
  | acc, [] => acc
  | acc, y :: ys => catS (acc ++ y) ys
theorem evj_run {ts : List TE} {ys : List Str} (j : EvJ F L ts ys) : ∀ (acc : Str) (H0 B0 B H : Hp) (σ : St), F H0 B0 → Grow B0 H0 B H → Env H0 B H σ L → acc.length + (ys.map (·.length)).sum ≤ 10000 → ∀ Q : Str → Hp → Prop, (∀ B' H', Grow B H B' H' → Q (catS acc ys) H') → tJs ts acc σ H Q := by
  induction j with
  | nil => intro acc H0 B0 B H σ f g E _ Q q; exact q B H (.rfl' g.bh)
  | @cons t ts y ys h r ih =>
    intro acc H0 B0 B H σ f g E hz Q q
    refine h H0 B0 B H σ f g E _ fun v B1 H1 g1 o1 => ?_
    rw [List.map_cons, List.sum_cons] at hz
    have e := app_len acc y
    refine ⟨y, dp_str o1, by rw [e]; exact Nat.le_trans (by omega : _ ≤ 10000) (by decide), ih (acc ++ y) H0 B0 B1 H1 σ f (g.trans g1) (E.mono g1) (by rw [e]; omega) Q fun B2 H2 g2 => q B2 H2 (g1.trans g2)⟩
theorem e_joined {ts : List TE} {ys : List Str} (j : EvJ F L ts ys) (hz : (ys.map (·.length)).sum ≤ 10000) : EvE F (fun σ H Q => tJs ts Str.empty σ H fun out H1 => Q (.str out) H1) L (.d (.str (catS Str.empty ys))) := fun H0 B0 B H σ f g E Q q =>
  evj_run j Str.empty H0 B0 B H σ f g E (by show 0 + _ ≤ _; omega) _ fun B1 H1 g1 => q _ B1 H1 g1 (.str _)
end
theorem catS_tl : ∀ (ys : List Str) (acc : Str), tl (catS acc ys) = tl acc ++ (ys.map tl).flatten
  | [], acc => by simp [catS]
  | y :: ys, acc => by rw [catS, catS_tl ys, tl_app]; simp [List.append_assoc]
section
variable {P : Program} {w : World} {K : PySem.W.Frag} {mg : Str → Option Value} {base : Heap} {C : Addr}
/-! ### Trip.__str__ -/
/-- the text of a trip: its parts -/
def firstS (bs ss : List Int) : Str := catS Str.empty [numS (bs.length : Nat), " stages, ", numS bs.sum, " bicycles, ", numS (ss.length : Nat), " people"]
def tripStr (bs ss : List Int) (f : Int) (n : Nat) : Str := catS Str.empty [firstS bs ss, ", finish ", numS f, ", ", numS (n : Nat), " edits"]
inductive R_str : RT
  | mk (sts fins eds : List PyData) (w r f : Int) (bs ss : List Int) (h : sts.getLast? = some (.tuple [roadD w r bs, intsD ss])) (hf : fins.getLast? = some (.int f)) (h1 : bs.length ≤ 1000) (h2 : ss.length ≤ 1000) (h3 : Small bs.sum) (h4 : Small f) (h5 : eds.length ≤ 1000) : R_str sts fins eds [] (.str (tripStr bs ss f eds.length))
theorem small_nat {n : Nat} (h : n ≤ 1000) : Small (n : Int) := ⟨by omega, by omega⟩
theorem first_len (bs ss : List Int) (h1 : bs.length ≤ 1000) (h2 : ss.length ≤ 1000) (h3 : Small bs.sum) : (firstS bs ss).length ≤ 100 := by
  have a := numS_len (small_nat h1)
  have b := numS_len (small_nat h2)
  have c := numS_len h3
  rw [len_tl] at a b c ⊢
  unfold firstS
  rw [catS_tl]
  have l1 : (tl (" stages, " : Str)).length = 9 := rfl
  have l2 : (tl (" bicycles, " : Str)).length = 11 := rfl
  have l3 : (tl (" people" : Str)).length = 7 := rfl
  have l0 : (tl Str.empty).length = 0 := rfl
  simp only [List.map_cons, List.map_nil, List.flatten_cons, List.flatten_nil, List.append_nil, List.length_append, l0, l1, l2, l3]
  omega
abbrev s_Trip___str__ : Stmt := inClass (top 69) 10
abbrev n_Trip___str__ : List Str := ["self", "road", "starts", "first"]
theorem sc_Trip___str__ : FnScope n_Trip___str__ ["self"] (defScope s_Trip___str__) := ⟨rfl, rfl, rfl, by decide +kernel, rfl, by decide +kernel, by decide +kernel⟩
theorem f_Trip___str__ (G : Gs K mg) (tc : TripC K C)   (D : DefM K C "__str__" "Trip.__str__" s_Trip___str__) : CalM P w K mg base C CX0 1 "__str__" (spT C R_str) :=
  calM_of ["self"] D (fun _ _ _ _ _ _ us hl => match us, hl with | [_], _ => rfl) fun f fd Fn => by
    have sc := sc_Trip___str__
    refine fnT Fn sc (fun sts fins eds ds d h => by cases h <;> rfl) fun cdv A outer s H E hr => ?_
    have hu := hr.units
    refine ⟨_, (pss_cons (ps_asg (pe_ix (kx_ix G) (pe_fld (pv 0) rfl) (pe_un un_neg pe_int) (fun _ _ => rfl)) (pg_tup (by rfl) (pgs_cons (pg_name (i := 1) sc.nd rfl (Or.inl rfl)) (pgs_cons (pg_name (i := 2) sc.nd rfl (Or.inl rfl)) pgs_nil))))
      (pss_cons (ps_set (i := 3) sc.nd rfl (Or.inl rfl) (pe_joined (.cons (pe_fmt (u_len G (pa_cons (pe_ix (kx_ix G) (pv 1) pe_int (fun _ _ => rfl)) pa_nil))) (.cons pe_str (.cons (pe_fmt (u_sum G (pa_cons (pe_ix (kx_ix G) (pv 1) pe_int (fun _ _ => rfl)) pa_nil))) (.cons pe_str (.cons (pe_fmt (u_len G (pa_cons (pv 2) pa_nil))) (.cons pe_str .nil))))))))
      (pss_one (ps_ret (pe_joined (.cons (pe_fmt (pv 3)) (.cons pe_str (.cons (pe_fmt (pe_ix (kx_ix G) (pe_fld (pv 0) rfl) (pe_un un_neg pe_int) (fun _ _ => rfl))) (.cons pe_str (.cons (pe_fmt (u_len G (pa_cons (pe_fld (pv 0) rfl) pa_nil))) (.cons pe_str .nil))))))))))), fun tr ls lf le sts fins eds ds d h => ?_⟩
    cases h with
    | mk _ _ _ w r f bs ss h hf h1 h2 h3 h4 h5 =>
      refine r_seq (r_asgT (js := [1, 2]) (e_tix (fun _ _ h => h.st) (e_fld tc.cls tc.s (fun _ _ h => h) (e_var rfl) rfl) (e_neg e_int) (atI_lastD _ _ h)) (g_tup (gs_cons g_name (gs_cons g_name gs_nil))) rfl) ?_
      have fl := first_len bs ss h1 h2 h3
      have a := numS_len (small_nat h1)
      have b := numS_len (small_nat h2)
      have c := numS_len h3
      have d := numS_len h4
      have e5 := numS_len (small_nat h5)
      have ix2 : ∀ {F : Fx}, EvE F (tOp (rIx K) (tVar 1) (tC (.int 2))) [.v (.ref tr), .d (roadD w r bs), .d (intsD ss), .u] (.d (intsD bs)) := fun {F} => e_ix (xs := [.int w, .int r, intsD bs]) (e_var rfl) (.inr rfl) e_int rfl
      refine r_seq (r_asg (s := .d (.str (firstS bs ss))) (e_joined (ys := [numS (bs.length : Nat), " stages, ", numS bs.sum, " bicycles, ", numS (ss.length : Nat), " people"]) (.cons (e_fmtI ((c_len (xs := bs.map PyData.int) (a_cons ix2 a_nil) (.inr rfl)).is (by rw [List.length_map])) (small_nat h1)) (.cons e_str (.cons (e_fmtI (c_sumU (a_cons ix2 a_nil) (.inr rfl)) h3) (.cons e_str (.cons (e_fmtI ((c_len (xs := ss.map PyData.int) (a_cons (e_var rfl) a_nil) (.inr rfl)).is (by rw [List.length_map])) (small_nat h2)) (.cons e_str .nil)))))) ?_) rfl rfl) ?_
      · have l1 : (" stages, " : Str).length = 9 := rfl
        have l2 : (" bicycles, " : Str).length = 11 := rfl
        have l3 : (" people" : Str).length = 7 := rfl
        simp only [List.map_cons, List.map_nil, List.sum_cons, List.sum_nil, l1, l2, l3]
        omega
      refine r_ret (e_joined (ys := [firstS bs ss, ", finish ", numS f, ", ", numS (eds.length : Nat), " edits"]) (.cons (e_fmtS (e_var rfl) (by omega)) (.cons e_str (.cons (e_fmtI (e_tix (fun _ _ h => h.fi) (e_fld tc.cls tc.f (fun _ _ h => h) (e_var rfl) rfl) (e_neg e_int) (atI_lastD _ _ hf)) h4) (.cons e_str (.cons (e_fmtI (c_tlen (fun _ _ h => h.ed) (a_cons (e_fld tc.cls tc.e (fun _ _ h => h) (e_var rfl) rfl) a_nil)) (small_nat h5)) (.cons e_str .nil)))))) ?_) rfl rfl
      · have l1 : (", finish " : Str).length = 9 := rfl
        have l2 : (", " : Str).length = 2 := rfl
        have l3 : (" edits" : Str).length = 6 := rfl
        simp only [List.map_cons, List.map_nil, List.sum_cons, List.sum_nil, l1, l2, l3]
        omega
abbrev s_Trip___eq__ : Stmt := inClass (top 69) 9
abbrev n_Trip___eq__ : List Str := ["self", "other"]
theorem sc_Trip___eq__ : FnScope n_Trip___eq__ ["self", "other"] (defScope s_Trip___eq__) := ⟨rfl, rfl, rfl, by decide +kernel, rfl, by decide +kernel, by decide +kernel⟩
/-- two trips of one state -/
def SameT (C : Addr) (a b : Addr) (H : Hp) : Prop := ∃ B ls lf le sts fins eds ls' lf' le' sts' fins' eds' w r bs ss, Ex B H ∧ TripS C B H a ls lf le sts fins eds ∧ TripS C B H b ls' lf' le' sts' fins' eds' ∧ sts.getLast? = some (.tuple [roadD w r bs, intsD ss]) ∧ sts'.getLast? = some (.tuple [roadD w r bs, intsD ss])
theorem canInts (l : List Int) : PyData.canLayAll0 (l.map PyData.int) = true := canLay_map PyData.int (fun _ => rfl) l
theorem canKey (w r : Int) (bs ss : List Int) : (PyData.tuple [roadD w r bs, .list (ss.map PyData.int)]).canLay0 = true := by
  simp [PyData.canLay0, PyData.canLayAll0, canInts]
theorem f_Trip_eq (G : Gs K mg) (tc : TripC K C) (ti : TripI K mg C) (c_own_key : CalM P w K mg base C CX0 1 "own_key" (spT C R_key)) {f : Addr} {fd : FuncData} (Fn : Fun K "__eq__" "Trip.__eq__" s_Trip___eq__ f fd) : FnOk P w K mg base CX0 3 f fd ["self", "other"] (L2.spEq (SameT C)) := by
  have sc := sc_Trip___eq__
  refine Fn.ok sc (fun vs H Q E h => ?_) (fun cdv A outer s H vs Q E hr h => ?_)
  · obtain ⟨a, b, rfl, _⟩ := h
    rfl
  have hu := hr.units
  refine ⟨_, (pss_one (ps_ret (pe_and (u_isi G (pa_cons (pv 1) (pa_cons (pe_glob (v := .ref C) rfl ti.gC rfl) pa_nil))) (pe_one (pe_cmpR (kx_eq G hu) (pe_cm0 c_own_key tc.cls pass0 hr (by decide) (pv 0)) (pe_cm0 c_own_key tc.cls pass0 hr (by decide) (pv 1)) (nomark _)))))), ?_⟩
  obtain ⟨a, b, rfl, ⟨B, ls, lf, le, sts, fins, eds, ls', lf', le', sts', fins', eds', wk, rd, bs, ss, eb, Ta, Tb, h1, h2⟩, q⟩ := h
  have E0 : Env H B H (L2.start n_Trip___eq__ [.ref a, .ref b]) [.v (.ref a), .v (.ref b)] := env_startS (vs := [.ref a, .ref b]) (ss := [.v (.ref a), .v (.ref b)]) (.cons rfl (.cons rfl .nil)) (by simp [isM])
  have hk : (tfs ls lf le).lookup ("own_key" : Str) = none := rfl
  have hk' : (tfs ls' lf' le').lookup ("own_key" : Str) = none := rfl
  have sh : SeqAt.shaped (PyData.tuple [roadD wk rd bs, .list ((sortI ss).map PyData.int)]) = true := by
    unfold SeqAt.shaped
    rw [canKey, Bool.true_and]
    refine decide_eq_true ?_
    have d1 := depth_all (n := 0) (l := bs.map PyData.int) fun d hd => by obtain ⟨i, _, rfl⟩ := List.mem_map.mp hd; exact Nat.le_refl 0
    have d2 := depth_all (n := 0) (l := (sortI ss).map PyData.int) fun d hd => by obtain ⟨i, _, rfl⟩ := List.mem_map.mp hd; exact Nat.le_refl 0
    simp only [PyData.depth, PyData.depthAll]
    omega
  refine EvE.go (F := fun H0 B0 => TripS C B0 H0 a ls lf le sts fins eds ∧ TripS C B0 H0 b ls' lf' le' sts' fins' eds') (s := .d (.bool true)) ((e_andV (b := true) (c := true) (c_isiT tc ti (fun _ _ h => h.2) (a_cons (e_var rfl) (a_cons e_val a_nil)) (.own C) ti.own) fun _ => (e_eq (e_meth (ds := []) (fun _ _ h => h.1) hk (e_var rfl) a_nil (R_key.mk _ _ _ _ ss h1)) rfl (e_meth (ds := []) (fun _ _ h => h.2) hk' (e_var rfl) a_nil (R_key.mk _ _ _ _ ss h2)) rfl sh sh).is (by rw [SeqAt.eqv_refl _ (canKey _ _ _ _)]))) ⟨Ta, Tb⟩ eb E0 fun v B1 H1 g1 o1 => ?_
  rw [dp_bl o1]
  exact q H1 g1.hh
end
end K45
-- E3
set_option maxHeartbeats 4000000
/-! len, str, == of a trip; its properties; repr; defs that want no guards around -/
namespace K45
open PySem PySem.Spec PyProof.Rows L2
open Evl (Ex ex_rd ex_l ex_t)
section
variable {X : Cx} {C f : Addr} {k : Nat} {fd : FuncData} {ps : List Str} {sp : Sp}
def rLenO (C : Addr) (sp : Sp) : List V → Hp → VK → Prop := fun xs H Q => ∃ a dx fs, xs = [.ref a] ∧ H a = some (.ins C dx fs) ∧ sp [.ref a] H (fun v H' => ∃ n : Nat, v = .int (n : Int) ∧ n < 2 ^ 62 ∧ Q (.int (n : Int)) H') E0
theorem call_lenO (F : FnOk X.prog X.w X.K X.mg X.base CX0 k f fd ps sp) (hm : Meth X.K C "__len__" f) (hb : Binds X.K fd ps []) (hr : Room (k + 1) X.A) : CallR X (.builtin "len") (rLenO C sp) := by
  intro pins s σ H xs us Q I r h
  obtain ⟨a, dx, fs, rfl, ea, h⟩ := h
  obtain ⟨u, rfl, r1⟩ := vals1 r
  obtain rfl : u = Value.ref a := r1
  obtain ⟨mA, O, _, _, _, _⟩ := ins_get I.hok ea
  obtain ⟨od, J, _⟩ := O.look
  obtain ⟨m, fr⟩ := I.fr
  refine PySem.W.len_K (h₀ := X.base) fr I.ok.mod.kin J hm.at_ hm.fn ?_
  have hl : ([Value.ref a] ++ []).length = ps.length := (F.len _ _ _ _ h).symm ▸ rfl
  refine wpAny_call (codeAny_mono (F.run X.A.in1 X.stack s H ⟨[.ref a], []⟩ ([.ref a] ++ []) [.ref a] _ E0 hr.in1 I.env0.in1 (hb _ [.ref a] I.kIn hl) (show Vals [V.ref a] [Value.ref a] from .cons rfl .nil) h) fun r s' hq => ?_)
  cases r with
  | error er => exact False.elim hq
  | ok fl =>
    cases fl with
    | ret u =>
      obtain ⟨v, H', I3, rv, n, rfl, hn, q3⟩ := I.after hq
      obtain ⟨t, rfl⟩ := rv
      exact ⟨⟨by omega, by omega⟩, .int (n : Int), H', I3.tok _, ⟨_, rfl⟩, q3⟩
    | next => exact False.elim hq
    | brk => exact False.elim hq
    | cont => exact False.elim hq
def rStrO (C : Addr) (sp : Sp) : List V → Hp → VK → Prop := fun xs H Q => ∃ a dx fs, xs = [.ref a] ∧ H a = some (.ins C dx fs) ∧ sp [.ref a] H (fun v H' => ∃ y : Str, v = .str y ∧ Q (.str y) H') E0
theorem call_strO (F : FnOk X.prog X.w X.K X.mg X.base CX0 k f fd ps sp) (hm : Meth X.K C "__str__" f) (hb : Binds X.K fd ps []) (hr : Room (k + 2) X.A) : CallR X (.type "str") (rStrO C sp) := by
  intro pins s σ H xs us Q I r h
  obtain ⟨a, dx, fs, rfl, ea, h⟩ := h
  obtain ⟨u, rfl, r1⟩ := vals1 r
  obtain rfl : u = Value.ref a := r1
  obtain ⟨mA, O, _, _, _, _⟩ := ins_get I.hok ea
  obtain ⟨od, J, _⟩ := O.look
  refine PySem.W.kso_call hr.in1.in1.units0 I.kIn J hm.at_ hm.fn ?_
  have hl : ([Value.ref a] ++ []).length = ps.length := (F.len _ _ _ _ h).symm ▸ rfl
  refine wpAny_call (codeAny_mono (F.run X.A.in1.in1 X.stack s H ⟨[.ref a], []⟩ ([.ref a] ++ []) [.ref a] _ E0 hr.in1.in1 I.env0.in1.in1 (hb _ [.ref a] I.kIn hl) (show Vals [V.ref a] [Value.ref a] from .cons rfl .nil) h) fun r s' hq => ?_)
  cases r with
  | error er => exact False.elim hq
  | ok fl =>
    cases fl with
    | ret u =>
      obtain ⟨v, H', I3, rv, y, rfl, q3⟩ := I.after hq
      obtain ⟨t, rfl⟩ := rv
      exact ⟨.str y, H', I3, ⟨_, rfl⟩, q3⟩
    | next => exact False.elim hq
    | brk => exact False.elim hq
    | cont => exact False.elim hq
/-! ### repr of a list or tuple of data -/
def rRepr (K : PySem.W.Frag) : List V → Hp → VK → Prop := fun xs H Q => ∃ a d, xs = [.ref a] ∧ Dp K H (.ref a) d ∧ d.showable = true ∧ d.hasDict = false ∧ d.shown.length ≤ sizeLine ∧ d.depth ≤ 20 ∧ Q (.str d.shown) H
theorem call_reprD (hg : X.A.guards = some []) (hr : X.A.units + 64 < cLine) : CallR X (.builtin "repr") (rRepr X.K) := by
  intro pins s σ H xs us Q I r h
  obtain ⟨a, d, rfl, hd, h1, h2, h3, h4, q⟩ := h
  obtain ⟨u, rfl, r1⟩ := vals1 r
  obtain rfl : u = Value.ref a := r1
  obtain ⟨as, rd⟩ := Dp.reads I d (.ref a) (.ref a) hd rfl
  exact repr_of_reads' rd h1 (fun z => by rw [h2] at z; cases z) hg (by omega) (fun _ _ e => e) (fun h' u tk hk => ⟨.str d.shown, H, I.kept (t' := tk) hk, ⟨_, rfl⟩, q⟩) h3
end
/-! ### a def that is called where nothing is guarded -/
structure FnG (P : Program) (w : World) (K : PySem.W.Frag) (mg : Str → Option Value) (base : Heap) (CX : CXT) (k : Nat) (f : Addr) (fd : FuncData) (ps : List Str) (sp : Sp) : Prop where
  len : ∀ vs H Q E, sp vs H Q E → vs.length = ps.length
  run : ∀ (A : Around) (outer : List PySem.Env) (s : Shared) (H : Hp) (args : Args) (us : List Value) (vs : List V) (Q : VK) (E : XK), A.guards = some [] → Room k A → Env0 P w K mg base A outer s H → BindsTo s fd args (ps.zip us) → Vals vs us → sp vs H Q E →
    codeAny (model P w) A (.call (.ref f) args) (CR CX outer P w H s Q E) s
theorem guards_deeper {A : Around} {env : PySem.Env} (h : A.guards = some []) : (A.deeper env).guards = some [] := h
section
variable {P : Program} {w : World} {K : PySem.W.Frag} {mg : Str → Option Value} {base : Heap}
theorem Fun.okG {CX : CXT} {x qual : Str} {st : Stmt} {f : Addr} {fd : FuncData} {N ps : List Str} {k : Nat} {sp : Sp} (Fn : Fun K x qual st f fd) (S : FnScope N ps (defScope st)) (len : ∀ vs H Q E, sp vs H Q E → vs.length = ps.length)
    (hbody : ∀ (cdv : Value) (A : Around) (outer : List PySem.Env) (s : Shared) (H : Hp) (vs : List V) (Q : VK) (E : XK), (A.deeper (envOfC qual (defScope st) s.heap.objs.size f cdv)).guards = some [] → Room k (A.deeper (envOfC qual (defScope st) s.heap.objs.size f cdv)) → sp vs H Q E →
      ∃ t, PSs (cxOf CX P w K mg base N qual (defScope st) f cdv A outer s H E) (defBody st) t ∧ t { nx := fun _ H' => Q .non H', rt := Q } (L2.start N vs) H) : FnG P w K mg base CX (k + 1) f fd ps sp := by
  obtain ⟨oc, od, kV, doc, pm, an, cdv, ct, osl, rfl, lk, hcd⟩ := Fn.ex
  refine ⟨len, fun A outer s H args us vs Q E hg hr e0 hb r hsp => ?_⟩
  have hl := len _ _ _ _ hsp
  have KX : K.In s.heap := e0.mod.kin.keeps fun b o e => (e0.bs b o e).1
  have lim : s.heap.NoLimit := e0.mod.nolimit.keeps fun b o e => (e0.bs b o e).1
  have hkind : ∀ y ∈ ps.zip us, (defScope st).names.lookup y.1 = some .local ∨ ((defScope st).names.lookup y.1 = some .cell ∧ ((cellsFrom (s.heap.objs.size + 1) (defScope st).names []).lookup y.1).isSome = true) := fun ⟨n, v⟩ hy => by
    rcases S.par n (List.of_mem_zip hy).1 with q | q
    · exact .inl q
    · exact .inr ⟨q, PySem.W.cellsFrom_some _ _ _ (.inl q)⟩
  refine codeAny_call_function hr.depth (KX _ _ lk) rfl S.co S.gen rfl (PySem.W.codeRec_of KX hcd) (hb _ _ _ _ ?_)
  refine wpAny_newFunctionEnv_cells S.kind hkind fun env he s1 x => ?_
  subst he
  refine ⟨lim.keeps x.toInCall.keep, codeAny_func ?_⟩
  obtain ⟨t, ht, hq⟩ := hbody cdv A outer s H vs Q E (guards_deeper hg) (hr.deeper _) hsp
  have I : Inv (cxOf CX P w K mg base N qual (defScope st) f cdv A outer s H E) [] (L2.start N vs) H s1 := inv_start S hr.hd e0 hl r x
  refine wpAny_mono (ht.run [] s1 (L2.start N vs) H _ I hq) (fun fl s' hs => ?_) fun e s' hs => hs
  cases fl with
  | ret u =>
    obtain ⟨v, σ', H', J, rv, q⟩ := hs
    exact ⟨v, H', J.os, J.bare, J.base, J.hok, rv, q⟩
  | next =>
    obtain ⟨σ', H', J, q⟩ := hs
    exact ⟨V.non, H', J.os, J.bare, J.base, J.hok, rfl, q⟩
  | brk =>
    obtain ⟨_, _, _, q⟩ := hs
    exact False.elim q
  | cont =>
    obtain ⟨_, _, _, q⟩ := hs
    exact False.elim q
/-- the name x of the module stands for such a def -/
structure CalGd (P : Program) (w : World) (K : PySem.W.Frag) (mg : Str → Option Value) (base : Heap) (k : Nat) (x : Str) (sp : Sp) : Prop where
  ex : ∃ f fd ps, FnG P w K mg base CX0 k f fd ps sp ∧ mg x = some (.ref f) ∧ PySem.W.keepIn K (.ref f) = true ∧ Binds K fd ps []
end
section
variable {X : Cx} {k j : Nat} {x : Str} {sp : Sp} {p pos : Pos} {e : Expr} {es : List Expr} {t : TA}
theorem pe_callGd (c : CalGd X.prog X.w X.K X.mg X.base k x sp) (hgd : X.A.guards = some []) (hr : Room j X.A) (hk : k ≤ j) (hg : Gl X x) (ha : PA X (e :: es) t)
    (hdb : (x == ("__debug__" : Str)) = false := by decide) (he : starEach (e :: es) X.env = (false, eval e X.env) :: starEach es X.env := by rfl) (hpl : (backTo pos (starEach es X.env)).any (·.1) = false := by rfl) :
    PE X (.Call (.Name x p) (e :: es) [] pos) (tCall sp [] E0 t) := by
  obtain ⟨f, fd, ps, F, hm, kp, hb⟩ := c.ex
  refine ⟨fun pins s σ H Q I h => ?_⟩
  refine wpAny_Call_Name_kw (ld_glob I hg hm ?_ hdb)
  refine PySem.W.callWith_K (h₀ := X.base) I.ok.mod.kin kp (thn (ha.run pos pins s σ H _ I h) fun us s1 ⟨vs, H1, I1, r, q⟩ => ⟨I1.kIn, ?_⟩) he hpl
  have q : sp (vs ++ []) H1 Q E0 := q
  rw [List.append_nil] at q
  have hl : (us ++ []).length = ps.length := by rw [List.append_nil, ← r.length]; exact F.len _ _ _ _ q
  have hb1 := hb s1 us I1.kIn hl
  rw [List.append_nil] at hb1
  refine wpAny_call (codeAny_mono (F.run X.A X.stack s1 H1 ⟨us, []⟩ us vs Q E0 hgd (hr.mono hk) I1.env0 hb1 r q) fun r s' hq => ?_)
  cases r with
  | error e => exact False.elim hq
  | ok fl =>
    cases fl with
    | ret u => exact I1.after hq
    | next => exact False.elim hq
    | brk => exact False.elim hq
    | cont => exact False.elim hq
end
/-! ### their readings -/
section
variable {K : PySem.W.Frag} {F : Fx} {L : List Sl} {to ta : TE} {tr : TA} {C t ls lf le : Addr} {sts fins eds : List PyData}
theorem e_prop {R : RT} {E : XK} {d : PyData} (hF : ∀ H0 B0, F H0 B0 → TripS C B0 H0 t ls lf le sts fins eds) (ho : EvE F to L (.v (.ref t))) (hR : R sts fins eds [] d) : EvE F (tProp C (spT C R) [] E to) L (.d d) := fun H0 B0 B H σ f0 g E0 Q q =>
  ho H0 B0 B H σ f0 g E0 _ fun x B1 H1 g1 o1 => by
    obtain rfl : x = .ref t := o1
    obtain ⟨dx, e⟩ := (hF H0 B0 f0).ins
    exact ⟨t, dx, _, rfl, (g.trans g1).hh _ _ e, B1, t, ls, lf, le, sts, fins, eds, [], [], d, g1.bh, (hF H0 B0 f0).mono (g.trans g1), rfl, .nil, hR, fun v B2 H2 g2 r => q v B2 H2 (g1.trans g2) r⟩
theorem c_lenO (hF : ∀ H0 B0, F H0 B0 → TripS C B0 H0 t ls lf le sts fins eds) (hz : eds.length ≤ 1000) (h : EvA F tr L [.v (.ref t)]) : EvE F (tCB (rLenO C (spT C R_len)) tr) L (.d (.int eds.length)) := fun H0 B0 B H σ f0 g E0 Q q =>
  h H0 B0 B H σ f0 g E0 _ fun vs B1 H1 g1 o1 => by
    obtain ⟨x, rfl, o⟩ := ok1 o1
    obtain rfl : x = .ref t := o
    obtain ⟨dx, e⟩ := (hF H0 B0 f0).ins
    refine ⟨t, dx, _, rfl, (g.trans g1).hh _ _ e, B1, t, ls, lf, le, sts, fins, eds, [], [], _, g1.bh, (hF H0 B0 f0).mono (g.trans g1), rfl, .nil, .mk _ _ _, fun v B2 H2 g2 r => ⟨eds.length, dp_int r, by omega, ?_⟩⟩
    exact q _ B2 H2 (g1.trans g2) (.int _)
theorem c_strO {y : Str} (hF : ∀ H0 B0, F H0 B0 → TripS C B0 H0 t ls lf le sts fins eds) (hR : R_str sts fins eds [] (.str y)) (h : EvA F tr L [.v (.ref t)]) : EvE F (tCB (rStrO C (spT C R_str)) tr) L (.d (.str y)) := fun H0 B0 B H σ f0 g E0 Q q =>
  h H0 B0 B H σ f0 g E0 _ fun vs B1 H1 g1 o1 => by
    obtain ⟨x, rfl, o⟩ := ok1 o1
    obtain rfl : x = .ref t := o
    obtain ⟨dx, e⟩ := (hF H0 B0 f0).ins
    refine ⟨t, dx, _, rfl, (g.trans g1).hh _ _ e, B1, t, ls, lf, le, sts, fins, eds, [], [], _, g1.bh, (hF H0 B0 f0).mono (g.trans g1), rfl, .nil, hR, fun v B2 H2 g2 r => ⟨y, dp_str r, ?_⟩⟩
    exact q _ B2 H2 (g1.trans g2) (.str _)
theorem c_repr {s : Sl} {d : PyData} (h : EvA F tr L [s]) (hs : s.data = some d) (hd : (∃ xs, d = .list xs) ∨ ∃ xs, d = .tuple xs) (h0 : d.canLay0 = true) (h1 : d.showable = true) (h2 : d.hasDict = false) (h3 : d.shown.length ≤ sizeLine) (h4 : d.depth ≤ 20) : EvE F (tCB (rRepr K) tr) L (.d (.str d.shown)) :=
  c_of h fun H0 B H vs Q e oo q => by
    obtain ⟨v, rfl, o⟩ := ok1 oo
    have r := o.now e hs
    have hv : ∃ a, v = .ref a := by
      rcases hd with ⟨xs, rfl⟩ | ⟨xs, rfl⟩
      · obtain ⟨a, ws, rfl, _⟩ := dp_lst r; exact ⟨a, rfl⟩
      · obtain ⟨a, ws, rfl, _⟩ := dp_tup r; exact ⟨a, rfl⟩
    obtain ⟨a, rfl⟩ := hv
    exact ⟨a, d, rfl, rp_dp r h0, h1, h2, h3, h4, q _ B H (.rfl' e) (.str _)⟩
/-- t == Trip(road, starts), the trip of that state -/
theorem e_eqMk {w r : Int} {bs ss : List Int} {E : XK} (hF : ∀ H0 B0, F H0 B0 → TripS C B0 H0 t ls lf le sts fins eds) (hl : sts.getLast? = some (.tuple [roadD w r bs, intsD ss])) (good : Good w r bs ss) (ho : EvE F ta L (.v (.ref t))) (ha : EvA F tr L [.d (roadD w r bs), .d (intsD ss)]) :
    EvE F (tOp (rEqG (DIns C (SameT C))) ta (tMake C (spIn C) [] E tr)) L (.d (.bool true)) := fun H0 B0 B H σ f0 g E0 Q q =>
  ho H0 B0 B H σ f0 g E0 _ fun x B1 H1 g1 o1 => ha H0 B0 B1 H1 σ f0 (g.trans g1) (E0.mono g1) _ fun vs B2 H2 g2 o2 => by
    obtain rfl : x = .ref t := o1
    refine make_run (C := C) (E := E) (Q := fun y H2 => rEqG (DIns C (SameT C)) (V.ref t) y H2 Q) g2.bh (OkAll.rp (ds := [roadD w r bs, intsD ss]) o2) good fun t' ls' lf' le' B' H' N => ?_
    have gg := ((g.trans g1).trans g2).trans N.g
    have T := (hF H0 B0 f0).mono gg
    obtain ⟨dx, e1⟩ := T.ins
    obtain ⟨dy, e2⟩ := N.T.ins
    refine ⟨⟨t, t', dx, dy, _, _, rfl, rfl, e1, e2, B', ls, lf, le, sts, fins, eds, ls', lf', le', _, _, _, w, r, bs, ss, N.g.bh, T, N.T, hl, rfl⟩, fun H3 ex => ?_⟩
    exact q _ B' H3 (((g1.trans g2).trans N.g).trans ⟨Ex.refl B', ex, N.g.bh.trans ex, fun _ _ _ n => n⟩) (.bl _)
/-- the class's constant -/
theorem e_con {f : Str} {v : V} {u : Value} (cc : Cls K C) (k : Con K C f v u) (hF : ∀ H0 B0, F H0 B0 → TripS C B0 H0 t ls lf le sts fins eds) (hl : (tfs ls lf le).lookup f = none) (ho : EvE F to L (.v (.ref t))) : EvE F (tCon K to f) L (.v v) := fun H0 B0 B H σ f0 g E0 Q q =>
  ho H0 B0 B H σ f0 g E0 _ fun x B1 H1 g1 o1 => by
    obtain ⟨dx, e⟩ := (hF H0 B0 f0).ins
    exact ⟨t, C, dx, _, v, u, o1, (g.trans g1).hh _ _ e, cc, k, hl, q _ B1 H1 g1 rfl⟩
end
end K45
-- E4
set_option maxHeartbeats 4000000
/-! isinstance of a caught error that has a dict; calls whose errors are caught, with the slots -/
namespace PySem.W
open PySem PySem.Spec PySem.Calls PyProof.Rows
section
variable {prog : Program} {w : World} {A : Around} {E : Value → Shared → Prop} {s : Shared} {K : Frag} {x D : Addr} {ox od : Obj}
theorem k45_classE {Q : Option Value → Shared → Prop} (hga : findIn K (.ref D) "__getattribute__" = some (some (.builtin "BaseException.__getattribute__"))) (hgt : findIn K (.ref D) "__getattr__" = some none) (hsub : subIn K (.ref D) (.type "BaseException") = some true)
    (hdct : hasDictIn K D = true) (ha : findIn K (.ref D) "__class__" = some (some (.builtin "object.__class__")))
    (hn : specialIn K (.builtin "object.__class__") "__get__" = some (some (.builtin "getset_descriptor.__get__"))) (htk : takesIn K (.builtin "object.__class__") = some true) (hm : mroIn K D (.type "object") = some true)
    (X : K.In s.heap) (I : InstAt s.heap x ox D (some od)) (h : Q (some (.ref D)) { s with toks := s.toks + 1 }) : wpAny (model prog w) A (getAttr? (.ref x) "__class__") Q E s := by
  have hf : findObj K D (some od) "__class__" = some (.bind (.builtin "getset_descriptor.__get__") (.builtin "object.__class__")) := findObj_data (by obtain ⟨cd, hc, _⟩ := any_some hdct; rw [hc]; rfl) ha hn htk
  obtain ⟨hp, g, d, t, os⟩ := s
  have L0 := I.type (M := model prog w)
  have L1 := looks_findIn (M := model prog w) X hga
  have L2 := looks_findIn (M := model prog w) X hgt
  have L3 := looks_find (M := model prog w) X I hf
  have sub : Looks (model prog w) hp (isInstance (.ref x) (.type "BaseException")) true := L0.andThen (looks_subIn X hsub)
  have hx0 : (false && onTheHeap (Value.builtin "BaseException.__getattribute__")) = false := rfl
  have hx2 : (Value.builtin "BaseException.__getattribute__" == Value.builtin "object.__getattribute__") = false := by decide +kernel
  have hx1 : (onTheHeap (Value.ref D) && Value.builtin "BaseException.__getattribute__" == Value.builtin "object.__getattribute__") = false := by rw [hx2]; rfl
  unfold getAttr? getAttrBy? getAttrBy
  refine wpAny_bind (wpAny_mkText (wpAny_bind (wpAny_attempt (wpAny_holding (wpAny_bind (L0.at (wpAny_bind (L1.at ?_))))))))
  show wpAny _ _ (if (onTheHeap (Value.ref D) && Value.builtin "BaseException.__getattribute__" == Value.builtin "object.__getattribute__") = true then _ else _) _ _ _
  rw [hx1, if_neg Bool.false_ne_true]
  unfold getAttrByItsOwn hookBefore
  refine wpAny_bind ?_
  rw [if_pos (show onTheHeap (Value.ref D) = true from rfl)]
  refine L2.at ?_
  refine wpAny_bind (wpAny_attempt (wpAny_holding ?_))
  unfold callGetattribute
  rw [hx0, if_neg Bool.false_ne_true]
  unfold boundAndCalled
  rw [PySem.F.excAttr_ValueError.ga.bind (.ref x)]
  refine wpAny_bind (wpAny_pure ?_)
  show wpAny _ _ (call (.builtin "BaseException.__getattribute__") [.ref x, .str "__class__" t]) _ _ _
  refine wpAny_call (codeAny_call_builtin PySem.F.excAttr_ValueError.ga.plain PySem.F.entry_bexc_ga ?_)
  refine @check_slot (model prog w) _ _ ⟨hp, g, d, t + 1, os⟩ "BaseException.__getattribute__" "BaseException" "__getattribute__" (.ref x) [.str "__class__" t] [] _ (by decide +kernel) (by decide +kernel) sub (PySem.F.args_bexc_ga (.ref x) (.str "__class__" t)) ?_
  unfold Builtin.«object.__getattribute__»
  refine wpAny_bind (wpAny_of_eq (a := ((Value.ref x : Value), [Value.str "__class__" t])) (by first | rfl | (simp only [slotArgs]; rfl)) ?_)
  refine wpAny_bind (wpAny_pure (wpAny_bind (L0.at (wpAny_bind (L3.at ?_)))))
  show wpAny _ _ (holding [Value.builtin "object.__class__"] (call (.builtin "getset_descriptor.__get__") [.builtin "object.__class__", .ref x, .ref D]) >>= ret) _ _ _
  refine wpAny_bind (wpAny_holding (wpAny_call (class_get (s := ⟨hp, g, d, t + 1, os⟩) (ox := ox) (od := some od) X I hm ?_)))
  refine wpAny_pure ?_
  show wpAny _ _ (handedOut (.ref D)) _ _ _
  rw [handedOut_of (v := .ref D) rfl]
  first
    | exact wpAny_pure (wpAny_pure h)
    | exact wpAny_pure h
    | exact wpAny_pure (wpAny_bind (wpAny_pure (wpAny_pure h)))
theorem k45_kitx (hga : findIn K (.ref D) "__getattribute__" = some (some (.builtin "BaseException.__getattribute__"))) (hgt : findIn K (.ref D) "__getattr__" = some none) (hsub : subIn K (.ref D) (.type "BaseException") = some true) (hdct : hasDictIn K D = true) (ha : findIn K (.ref D) "__class__" = some (some (.builtin "object.__class__")))
    (hn : specialIn K (.builtin "object.__class__") "__get__" = some (some (.builtin "getset_descriptor.__get__"))) (htk : takesIn K (.builtin "object.__class__") = some true) (hm : mroIn K D (.type "object") = some true) :
    KitX K (.ref x) (.ref D) (fun h => InstAt h x ox D (some od)) where
  ty := fun _ _ _ I => I.type
  it := fun _ _ X _ => by
    obtain ⟨cdD, hcD, _⟩ := any_some hdct
    unfold clsIn at hcD
    split at hcD
    · rename_i c' d' cd' sl' ho
      intro A' Q' E' s' k q
      unfold isType loadHead
      exact wpAny_bind (wpAny_loadPart (k _ _ (X _ _ ho)) (wpAny_pure q))
    · cases hcD
  ne := fun h tp dd its n sl X htp => by
    obtain ⟨cdD, hcD, _⟩ := any_some hdct
    refine Bool.eq_false_iff.mpr fun q => ?_
    have e : D = tp := Value.ref.inj (beq_iff_eq.mp q)
    subst e
    unfold clsIn at hcD
    split at hcD
    · rename_i c' d' cd' sl' ho
      have z := (X _ _ ho).symm.trans htp
      cases z
    · cases hcD
  ca := fun X I k => k45_classE hga hgt hsub hdct ha hn htk hm X I k
end
end PySem.W
namespace K45
open PySem PySem.Spec PyProof.Rows L2
open Evl (Ex ex_rd ex_l ex_t)
/-- isinstance(e, c), e the exception at a that the suite holds, its dict at dd -/
def rIsD (K : PySem.W.Frag) (D a dd : Addr) : List V → Hp → VK → Prop := fun xs H Q => ∃ (c : V) (cv : Value) (b : Bool) (fs : List (Str × V)), xs = [.ref a, c] ∧ ClsV c cv ∧ H dd = some (.xd fs) ∧ PySem.W.kitOne K (.ref D) cv = some b ∧ Q (.bl b) H
def rIsDT (K : PySem.W.Frag) (D a dd : Addr) : List V → Hp → VK → Prop := fun xs H Q => ∃ (tp : Addr) (cs : List V) (us : List Value) (b : Bool) (fs : List (Str × V)), xs = [.ref a, .ref tp] ∧ H tp = some (.tup cs) ∧ Paired ClsV cs us ∧ H dd = some (.xd fs) ∧ PySem.W.kitAny K (.ref D) us = some b ∧ Q (.bl b) H
section
variable {X : Cx} {a D dd : Addr} {oe : Obj} {pn : List (Addr × Obj)}
theorem inst_exc {pins : List (Addr × Obj)} {σ : L2.St} {H : Hp} {s : Shared} {fs : List (Str × V)} (I : Inv (X.suite a ((a, oe) :: pn)) pins σ H s) (hz : Zc (.ref D) (some dd) oe) (hf : ∃ vs, oe.data = .fields vs) (hd : H dd = some (.xd fs)) : ∃ od, PySem.W.InstAt s.heap a oe D (some od) := by
  obtain ⟨hget, _⟩ := I.pin (a, oe) (List.mem_append.mpr (.inl List.mem_cons_self))
  obtain ⟨vs, hv⟩ := hf
  have hx : ObjOk X.prog X.w H s.heap dd (.xd fs) := I.hok dd _ hd
  obtain ⟨mA, hns, hr⟩ := hx
  obtain ⟨od, ho, _⟩ := lookIn_ns hns
  exact ⟨od, hget, hz.1, by unfold PySem.W.notCls; rw [hv] <;> rfl, by rw [hz.2]; exact ho⟩
theorem call_isD (C : ExcC X.K D) (hz : Zc (.ref D) (some dd) oe) (hf : ∃ vs, oe.data = .fields vs) : CallR (X.suite a ((a, oe) :: pn)) (.builtin "isinstance") (rIsD X.K D a dd) := by
  intro pins s σ H xs us Q I r h
  obtain ⟨c, cv, b, fs, rfl, k, hd, e, q⟩ := h
  obtain ⟨u1, u2, rfl, r1, r2⟩ := vals2 r
  obtain rfl : u1 = Value.ref a := r1
  have e2 := k.eq r2
  subst e2
  obtain ⟨od, J⟩ := inst_exc I hz hf hd
  exact PySem.W.kia_one (PySem.W.k45_kitx C.hg C.hk C.hs C.hd C.ha C.hn C.ht C.hm) I.kIn J e (fun z => nomatch z) fun tk => ⟨.bl b, H, I.kept (t' := tk) fun _ _ z => z, rfl, q⟩
theorem call_isDT (C : ExcC X.K D) (hz : Zc (.ref D) (some dd) oe) (hf : ∃ vs, oe.data = .fields vs) : CallR (X.suite a ((a, oe) :: pn)) (.builtin "isinstance") (rIsDT X.K D a dd) := by
  intro pins s σ H xs us Q I r h
  obtain ⟨tp, cs, ws, b, fs, rfl, hT, k, hd, e, q⟩ := h
  obtain ⟨u1, u2, rfl, r1, r2⟩ := vals2 r
  obtain rfl : u1 = Value.ref a := r1
  cases (show u2 = Value.ref tp from r2)
  obtain ⟨od, J⟩ := inst_exc I hz hf hd
  obtain ⟨_, its, rv, o, h1, h2, n, h3⟩ := (show ObjOk X.prog X.w H s.heap tp (.tup cs) from I.hok tp _ hT)
  have e3 := ClsV.all k rv
  subst e3
  obtain ⟨oc, od', dt, sl⟩ := o
  simp only at h2 h3
  subst h2 h3
  exact PySem.W.kia_tup (PySem.W.k45_kitx C.hg C.hk C.hs C.hd C.ha C.hn C.ht C.hm) I.kIn J h1 e (fun z => nomatch z) fun tk => ⟨.bl b, H, I.kept (t' := tk) fun _ _ z => z, rfl, q⟩
end
/-! ### calls whose errors go by the slots -/
def tMethS0 (C : Addr) (m : Str) (sp : Sp) (E : L2.St → XK) (ta : TE) : TE := fun σ H Q => ta σ H fun x H1 => ∃ a dx fs, x = .ref a ∧ H1 a = some (.ins C dx fs) ∧ fs.lookup m = none ∧ sp [x] H1 Q (E σ)
def tCMethS (C : Addr) (sp : Sp) (E : L2.St → XK) (ta : TE) (t : TA) : TE := fun σ H Q => ta σ H fun x H1 => x = .ref C ∧ t σ H1 fun vs H2 => sp (.ref C :: vs) H2 Q (E σ)
section
variable {X : Cx} {CX : CXT} {k j : Nat} {C p g : Addr} {mc : Value} {sp : Sp} {E : L2.St → XK} {o e : Expr} {es : List Expr} {m : Str} {pos apos : Pos} {ta : TE} {t : TA} {pl : Sem Bool}
theorem pe_cmS0 (c : CalM X.prog X.w X.K X.mg X.base C CX k m sp) (cc : Cls X.K C) (hx : ∀ σ, PassesAt CX X σ (E σ)) (hr : Room j X.A) (hk : k ≤ j) (he : PE X o ta)
    (ht : eval (.Call (.Attribute o m apos) [] [] pos) X.env = (do
      let ov ← eval o X.env
      standAt apos.atName
      let (f, first) ← holding [ov] (getMethod ov m pl)
      callWith pos f first (backTo pos (starEach [] X.env)) (backToKw pos (keywordEach [] X.env))) := by rfl) :
    PE X (.Call (.Attribute o m apos) [] [] pos) (tMethS0 C m sp E ta) := by
  obtain ⟨f, fd, ps, F1, hm, b⟩ := c.ex
  refine ⟨fun pins s σ H Q I h => ?_⟩
  refine PySem.W.methodCall_KW (pl := pl) (thn (he.run pins s σ H _ I h) fun u s1 ⟨x, H1, I1, rx, a, dx, fs, ex, ea, l, q⟩ => ?_) ht
  subst ex
  obtain rfl : u = Value.ref a := rx
  refine getmeth_ok I1 ea cc hm l ?_
  exact PySem.W.callWith_K0 (first := [.ref a]) I1.kIn hm.kp (run_fnS (us := [.ref a]) (vs := [.ref a]) F1 (hr.mono hk) b (hx σ) I1 (.cons rfl .nil) q)
theorem run_fnRS {pins : List (Addr × Obj)} {σ : L2.St} {H : Hp} {s : Shared} {f : Addr} {E : XK} {Q : VK} {us : List Value} {vs : List V} (F : FnR X.prog X.w X.K X.mg X.base CX k f sp) (hr : Room k X.A) (hx : PassesAt CX X σ E) (I : Inv X pins σ H s) (r : Vals vs us) (h : sp vs H Q E) :
    codeAny (model X.prog X.w) X.A (.call (.ref f) ⟨us, []⟩) (fun r s' => match r with | .ok (.ret v) => EP X pins σ Q v s' | .ok _ => False | .error e => X.xe e s') s := by
  refine codeAny_mono (F X.A X.stack s H us vs Q E hr I.env0 r h) fun r s' hq => ?_
  cases r with
  | error e => exact hx pins H s e s' I hq
  | ok fl =>
    cases fl with
    | ret u => exact I.after hq
    | next => exact False.elim hq
    | brk => exact False.elim hq
    | cont => exact False.elim hq
theorem pe_cmethS (he : PE X o ta) (r : ClX.CRead X.K C mc) (c : ClX.CMet X.K C mc m p g) (F : FnR X.prog X.w X.K X.mg X.base CX k g sp) (hr : Room k X.A) (hx : ∀ σ, PassesAt CX X σ (E σ)) (ha : PA X (e :: es) t)
    (hst : starEach (e :: es) X.env = (false, eval e X.env) :: starEach es X.env := by rfl) (hpl : (backTo pos (starEach es X.env)).any (·.1) = false := by rfl)
    (ht : eval (.Call (.Attribute o m apos) (e :: es) [] pos) X.env = (do
      let ov ← eval o X.env
      standAt apos.atName
      let (f, first) ← holding [ov] (getMethod ov m pl)
      callWith pos f first (backTo pos (starEach (e :: es) X.env)) (backToKw pos (keywordEach [] X.env))) := by rfl) :
    PE X (.Call (.Attribute o m apos) (e :: es) [] pos) (tCMethS C sp E ta t) := by
  refine ⟨fun pins s σ H Q I h => ?_⟩
  refine PySem.W.methodCall_KW (pl := pl) (thn (he.run pins s σ H _ I h) fun u s1 ⟨x, H1, I1, rx, ex, q⟩ => ?_) ht
  subst ex
  obtain rfl : u = Value.ref C := rx
  refine ClX.getmethcm_ok I1 r c fun s2 I2 => ?_
  refine ClX.callwith_cm I2 (ClX.base_none I1 (Nat.le_refl _)) c.fi (thn (ha.run pos _ s2 σ H1 _ I2 q) fun us s3 ⟨vs, H2, I3, rv, q2⟩ => ⟨⟨ClX.pin_at I3, I3.kIn⟩, ?_⟩) hst hpl
  have z : wpAny (model X.prog X.w) X.A (call (.ref s1.heap.objs.size) us) (EP X _ σ Q) X.xe s3 :=
    wpAny_call (PySem.W.method_call (ClX.pin_at I3) (run_fnRS (us := .ref C :: us) (vs := .ref C :: vs) F hr (hx σ) I3 (.cons rfl rv) q2))
  exact thn z fun _ _ y => ClX.unpinE y
end
end K45
-- BM
set_option maxHeartbeats 4000000
namespace K45
open PySem PySem.Spec PyProof.Rows L2
open Evl (Ex ex_rd ex_l ex_t)
theorem cps_seqIf {tt : TT} {tx ty : TS} {D : Ends} {σ : St} {H : Hp} (h : tt σ H fun b H1 => if b = true then tx { D with nx := ty D } σ H1 else ty D σ H1) : tSeq (tIfS tt tx tNext) ty D σ H := h
theorem cps_ret {te : TE} {D : Ends} {σ : St} {H : Hp} (h : te σ H D.rt) : tRet te D σ H := h
/-- t.m(x), the trip gets one state more -/
theorem cps_methEd {F : Fx} {L : List Sl} {ta : TA} {i : Nat} {C t ls lf le : Addr} {sts fins eds ds : List PyData} {m : Str} {mk : PyData → List V → List PyData → Prop} {E' : XK} {B H : Hp} {σ : St} {Q : VK} {wk rd : Int} {bs ss ss' : List Int} {e : PyData}
    (f : F H B) (eb : Ex B H) (E : Env H B H σ L) (hi : L[i]? = some (.v (.ref t))) (T : TripS C B H t ls lf le sts fins eds) (hm : (tfs ls lf le).lookup m = none) (ha : EvA F ta L (ds.map Sl.d)) (hmk : ∀ ws, mk e ws ds)
    (hl : sts.getLast? = some (.tuple [roadD wk rd bs, intsD ss])) (good : Good wk rd bs ss') (he : EditOf ss e ss') (z1 : sts.length ≤ 50) (z2 : fins.length ≤ 50) (z3 : eds.length ≤ 50)
    (q : ∀ B' H', GrowM (Lists ls lf le) B H B' H' → TripS C B' H' t ls lf le (sts ++ [.tuple [roadD wk rd bs, intsD ss']]) (fins ++ [.int (finishOf wk rd bs ss')]) (eds ++ [e]) → Q (.int (eds.length + 1 : Nat)) H') : tMeth C m (spEd C mk) [] E' (tVar i) ta σ H Q := by
  rcases E.at_ i _ hi with z | ⟨v, hv, o⟩
  · cases z
  obtain rfl : v = .ref t := o
  obtain ⟨dx, ei⟩ := T.ins
  refine ⟨.ref t, hv, t, dx, _, rfl, ei, hm, ha H B B H σ f (.rfl' eb) E _ fun ws B1 H1 g1 o1 => ?_⟩
  rw [List.append_nil]
  exact ⟨B1, t, ls, lf, le, sts, fins, eds, ws, ds, g1.bh, T.mono g1, rfl, OkAll.rp o1, wk, rd, bs, ss, ss', e, hmk ws, hl, good, he, z1, z2, z3, fun B' H' m T' => q B' H' (g1.toM.trans m) T'⟩
section
variable {P : Program} {w : World} {K : PySem.W.Frag} {mg : Str → Option Value} {base : Heap} {C : Addr}
/-! ### _law_do -/
abbrev s_law_do : Stmt := top 78
abbrev n_law_do : List Str := ["_law_table", "_law_edit"]
theorem sc_law_do : FnScope n_law_do ["_law_table", "_law_edit"] (defScope s_law_do) := ⟨rfl, rfl, rfl, by decide +kernel, rfl, by decide +kernel, by decide +kernel⟩
theorem f_law_do (G : Gs K mg) (tc : TripC K C) (c_come : CalM P w K mg base C CX0 8 "come" (spEd C fun e _ ds => ∃ x, ds = [x] ∧ e = .tuple [.str "come", x])) (c_leave : CalM P w K mg base C CX0 8 "leave" (spEd C fun e _ ds => ∃ x, ds = [x] ∧ e = .tuple [.str "leave", x])) (D : DefF K mg "_law_do" s_law_do) :
    C8.Cal P w K mg base 9 "_law_do" (spEd C fun e _ ds => ds = [e]) [] := by
  obtain ⟨f, fd, Fn, m⟩ := D
  have sc := sc_law_do
  refine ⟨f, fd, ["_law_table", "_law_edit"], [], ?_, m, Fn.kp, Fn.binds (fun _ _ _ _ _ _ us hl => match us, hl with | [_, _], _ => rfl), .nil⟩
  refine Fn.ok sc (fun vs H Q E h => ?_) (fun cdv A outer s H vs Q E hr h => ?_)
  · obtain ⟨B, t, ls, lf, le, sts, fins, eds, ws, ds, _, _, rfl, ra, wk, rd, bs, ss, ss', e, rfl, _⟩ := h
    rw [List.length_cons, RpAll.len ra]; rfl
  have hu := hr.units
  refine ⟨_, (pss_cons (ps_if (pt_cmpR (kx_eq G hu) (pe_ix (kx_ix G) (pv 1) pe_int (fun _ _ => rfl)) pe_str (nomark _)) (pss_one (ps_ret (pe_cm c_come tc.cls pass0 hr (by decide) (pv 0) (pa_cons (pe_ix (kx_ix G) (pv 1) pe_int (fun _ _ => rfl)) pa_nil)))) pss_nil) (pss_cons (ps_if (pt_cmpR (kx_eq G hu) (pe_ix (kx_ix G) (pv 1) pe_int (fun _ _ => rfl)) pe_str (nomark _)) (pss_one (ps_ret (pe_cm c_leave tc.cls pass0 hr (by decide) (pv 0) (pa_cons (pe_ix (kx_ix G) (pv 1) pe_int (fun _ _ => rfl)) pa_nil)))) pss_nil) pss_dead)), ?_⟩
  obtain ⟨B, t, ls, lf, le, sts, fins, eds, ws, ds, eb, T, rfl, ra, wk, rd, bs, ss, ss', e, rfl, hlast, good, he, z1, z2, z3, q⟩ := h
  have E0 : Env H B H (L2.start n_law_do (.ref t :: ws)) (startT n_law_do t [e]) := env_startT ra
  have hn1 : (tfs ls lf le).lookup ("come" : Str) = none := rfl
  have hn2 : (tfs ls lf le).lookup ("leave" : Str) = none := rfl
  have he' := he
  cases he with
  | come i hl h0 h1 =>
    refine cps_seqIf (EvT.go (F := Tr0) (t_test (e_eqS (i := "come") (j := "come") (e_ix (xs := [.str "come", .int i]) (i := 0) (e_var (i := 1) rfl) (.inr rfl) e_int rfl) e_str)) trivial eb E0 fun B1 H1 g1 => if_yes (decide_eq_true rfl) ?_)
    refine cps_ret (cps_methEd (F := Tr0) (ds := [.int i]) trivial g1.bh ((E0.mono g1).flat rfl : Env H1 B1 H1 _ _) rfl (T.mono g1) hn1 (a_cons (e_ix (xs := [.str "come", .int i]) (e_var rfl) (.inr rfl) e_int rfl) a_nil) (fun _ => ⟨_, rfl, rfl⟩) hlast good he' z1 z2 z3 fun B' H' m T' => ?_)
    exact q B' H' (g1.toM.trans m) T'
  | leave h2 h10 =>
    refine cps_seqIf (EvT.go (F := Tr0) (t_test (e_eqS (i := "leave") (j := "come") (e_ix (xs := [.str "leave", .int 0]) (i := 0) (e_var (i := 1) rfl) (.inr rfl) e_int rfl) e_str)) trivial eb E0 fun B1 H1 g1 => if_no (decide_eq_false (by decide)) ?_)
    refine cps_seqIf (EvT.go (F := Tr0) (t_test (e_eqS (i := "leave") (j := "leave") (e_ix (xs := [.str "leave", .int 0]) (i := 0) (e_var (i := 1) rfl) (.inr rfl) e_int rfl) e_str)) trivial g1.bh ((E0.mono g1).flat rfl : Env H1 B1 H1 _ (startT n_law_do t [.tuple [.str "leave", .int 0]])) fun B2 H2 g2 => if_yes (decide_eq_true rfl) ?_)
    refine cps_ret (cps_methEd (F := Tr0) (ds := [.int 0]) trivial g2.bh (((E0.mono g1).mono g2).flat rfl : Env H2 B2 H2 _ _) rfl ((T.mono g1).mono g2) hn2 (a_cons (e_ix (xs := [.str "leave", .int 0]) (e_var rfl) (.inr rfl) e_int rfl) a_nil) (fun _ => ⟨_, rfl, rfl⟩) hlast good he' z1 z2 z3 fun B' H' m T' => ?_)
    exact q B' H' ((g1.trans g2).toM.trans m) T'
/-! ### _law_edits_right -/
def spLe (C : Addr) : Sp := fun vs H Q _ => ∃ B t ls lf le v wk rd bs ss, Ex B H ∧ TripS C B H t ls lf le [.tuple [roadD wk rd bs, intsD ss]] [.int (finishOf wk rd bs ss)] [] ∧ vs = [.ref t, v] ∧ Rp B v (.list [roadD wk rd bs, intsD ss]) ∧ Good wk rd bs ss ∧
  ∀ B' H', GrowM (Lists ls lf le) B H B' H' → TripS C B' H' t ls lf le [.tuple [roadD wk rd bs, intsD ss]] [.int (finishOf wk rd bs ss)] [] → Q (.bl true) H'
abbrev s_law_edits_right : Stmt := top 86
abbrev n_law_edits_right : List Str := ["_law_table", "_law_state", "_law_edit", "_law_found", "e"]
theorem sc_law_edits_right : FnScope n_law_edits_right ["_law_table", "_law_state"] (defScope s_law_edits_right) := ⟨rfl, rfl, rfl, by decide +kernel, rfl, by decide +kernel, by decide +kernel⟩
theorem cps_callA {F : Fx} {ta : TA} {L ss : List Sl} {sp : Sp} {dvs : List V} {Ek : XK} {B H : Hp} {σ : St} {Q : VK} (h : EvA F ta L ss) (f : F H B) (eb : Ex B H) (E : Env H B H σ L) (q : ∀ vs B' H', Grow B H B' H' → OkAll H B' H' vs ss → sp (vs ++ dvs) H' Q Ek) : tCall sp dvs Ek ta σ H Q := h H B B H σ f (.rfl' eb) E _ q
theorem tor_go {t u : TT} {σ : St} {H : Hp} {Q : Bool → Hp → Prop} (h : t σ H fun c H1 => if c = true then Q true H1 else u σ H1 Q) : tOr t u σ H Q := h
theorem cps_orNe {K : PySem.W.Frag} {ta tb : TE} {u : TT} {σ : St} {H : Hp} {Q : Bool → Hp → Prop} (h : ta σ H fun x H1 => tb σ H1 fun y H2 => rNeU K x y H2 fun z H3 => ∃ k, z = .bl k ∧ if k = true then Q true H3 else u σ H3 Q) : tOr (tTest (tOp (rNeU K) ta tb)) u σ H Q := h
theorem cps_testNe {K : PySem.W.Frag} {ta tb : TE} {σ : St} {H : Hp} {Q : Bool → Hp → Prop} (h : ta σ H fun x H1 => tb σ H1 fun y H2 => rNeU K x y H2 fun z H3 => ∃ k, z = .bl k ∧ Q k H3) : tTest (tOp (rNeU K) ta tb) σ H Q := h
theorem shaped_state (w r : Int) (bs ss : List Int) : SeqAt.shaped (PyData.tuple [roadD w r bs, intsD ss]) = true := by
  unfold SeqAt.shaped
  rw [show (PyData.tuple [roadD w r bs, intsD ss]).canLay0 = true by simp [PyData.canLay0, PyData.canLayAll0, canInts], Bool.true_and]
  refine decide_eq_true ?_
  have d1 := depth_all (n := 0) (l := bs.map PyData.int) fun d hd => by obtain ⟨i, _, rfl⟩ := List.mem_map.mp hd; exact Nat.le_refl 0
  have d2 := depth_all (n := 0) (l := ss.map PyData.int) fun d hd => by obtain ⟨i, _, rfl⟩ := List.mem_map.mp hd; exact Nat.le_refl 0
  simp only [PyData.depth, PyData.depthAll]
  omega
/-- o.state(version = e) -/
def tStN (C : Addr) (ta : TE) (tk : TA) : TE := fun σ H Q => ta σ H fun x H1 => ∃ a dx fs, x = .ref a ∧ H1 a = some (.ins C dx fs) ∧ fs.lookup ("state" : Str) = none ∧ tk σ H1 fun zs H2 => ∃ z, zs = [z] ∧ spT C R_at [x, z] H2 Q E0
theorem pe_stN {X : Cx} {k j : Nat} {pos apos : Pos} {o : Expr} {kws : List Keyword} {ta : TE} {tk : TA} {pl : Sem Bool} (c : CalS X.prog X.w X.K X.mg X.base C k) (cc : Cls X.K C) (hr : Room j X.A) (hk : k ≤ j) (he : PE X o ta) (hkw : PK X kws tk)
    (hall : (backToKw pos (keywordEach kws X.env)).all (·.1.isSome) = true := by rfl) (hks : (backToKw pos (keywordEach kws X.env)).filterMap (·.1) = (["version"] : List Str) := by rfl)
    (hpl : ((backTo pos (starEach [] X.env)).any (·.1) || (backToKw pos (keywordEach kws X.env)).any (·.1.isNone)) = false := by rfl)
    (ht : eval (.Call (.Attribute o "state" apos) [] kws pos) X.env = (do
      let ov ← eval o X.env
      standAt apos.atName
      let (f, first) ← holding [ov] (getMethod ov "state" pl)
      callWith pos f first (backTo pos (starEach [] X.env)) (backToKw pos (keywordEach kws X.env))) := by rfl) :
    PE X (.Call (.Attribute o "state" apos) [] kws pos) (tStN C ta tk) := by
  obtain ⟨f, fd, ds, g, gV, F1, hm, v1, b1, kb, hg⟩ := c.ex
  refine ⟨fun pins s σ H Q I h => ?_⟩
  refine PySem.W.methodCall_KW (pl := pl) (thn (he.run pins s σ H _ I h) fun u s1 ⟨x, H1, I1, rx, a, dx, fs, ex, ea, l, q⟩ => ?_) ht
  subst ex
  obtain rfl : u = Value.ref a := rx
  refine getmeth_ok I1 ea cc hm l ?_
  refine PySem.W.callWith_KW0 (first := [.ref a]) (h₀ := X.base) I.ok.mod.kin hm.kp hall ?_ hpl
  refine thn (hkw.run pos pins s1 σ H1 _ I1 q) fun ws s2 ⟨zs, H2, I2, rz, z, hz, q2⟩ => ⟨I2.kIn, ?_⟩
  subst hz
  rw [hks]
  exact run_fnN (us := [.ref a]) (vs := [.ref a]) F1 (hr.mono hk) kb pass0 I2 (.cons rfl .nil) rz rfl rfl (by rw [hg]; exact q2)
/-- o.state() -/
theorem pe_st0 {X : Cx} {k j : Nat} {pos apos : Pos} {o : Expr} {ta : TE} {pl : Sem Bool} (c : CalS X.prog X.w X.K X.mg X.base C k) (cc : Cls X.K C) (hr : Room j X.A) (hk : k ≤ j) (he : PE X o ta)
    (ht : eval (.Call (.Attribute o "state" apos) [] [] pos) X.env = (do
      let ov ← eval o X.env
      standAt apos.atName
      let (f, first) ← holding [ov] (getMethod ov "state" pl)
      callWith pos f first (backTo pos (starEach [] X.env)) (backToKw pos (keywordEach [] X.env))) := by rfl) :
    PE X (.Call (.Attribute o "state" apos) [] [] pos) (tMeth C "state" (spT C R_at) [.non] E0 ta tNil) := by
  obtain ⟨f, fd, ds, g, gV, F1, hm, v1, b1, kb, hg⟩ := c.ex
  exact pe_meth0 (pl := pl) he cc hm F1 (hr.mono hk) b1 v1 pass0 ht
theorem e_st0 {F : Fx} {L : List Sl} {to : TE} {t ls lf le : Addr} {sts fins eds : List PyData} {d : PyData} {E : XK} (hF : ∀ H0 B0, F H0 B0 → TripS C B0 H0 t ls lf le sts fins eds) (ho : EvE F to L (.v (.ref t))) (hl : sts.getLast? = some d) : EvE F (tMeth C "state" (spT C R_at) [.non] E to tNil) L (.d d) := fun H0 B0 B H σ f0 g E0 Q q =>
  ho H0 B0 B H σ f0 g E0 _ fun x B1 H1 g1 o1 => by
    obtain rfl : x = .ref t := o1
    obtain ⟨dx, e⟩ := (hF H0 B0 f0).ins
    exact ⟨t, dx, _, rfl, (g.trans g1).hh _ _ e, rfl, B1, t, ls, lf, le, sts, fins, eds, [.non], [.none], d, g1.bh, (hF H0 B0 f0).mono (g.trans g1), rfl, dpa_one .non, .no _ _ _ _ hl, fun v B2 H2 g2 r => q v B2 H2 (g1.trans g2) r⟩
theorem e_stN {F : Fx} {L : List Sl} {to te : TE} {t ls lf le : Addr} {sts fins eds : List PyData} {d : PyData} {i : Nat} (hF : ∀ H0 B0, F H0 B0 → TripS C B0 H0 t ls lf le sts fins eds) (ho : EvE F to L (.v (.ref t))) (he : EvE F te L (.d (.int (i : Int)))) (hi : i ≤ eds.length) (hl : sts[i]? = some d) : EvE F (tStN C to (tCons te tNil)) L (.d d) := fun H0 B0 B H σ f0 g E0 Q q =>
  ho H0 B0 B H σ f0 g E0 _ fun x B1 H1 g1 o1 => by
    obtain rfl : x = .ref t := o1
    obtain ⟨dx, e⟩ := (hF H0 B0 f0).ins
    refine ⟨t, dx, _, rfl, (g.trans g1).hh _ _ e, rfl, he H0 B0 B1 H1 σ f0 (g.trans g1) (E0.mono g1) _ fun z B2 H2 g2 o2 => ⟨z, rfl, ?_⟩⟩
    exact ⟨B2, t, ls, lf, le, sts, fins, eds, [z], [.int (i : Int)], d, g2.bh, (hF H0 B0 f0).mono ((g.trans g1).trans g2), rfl, dpa_one o2, .mk _ _ _ _ _ hi hl, fun v B3 H3 g3 r => q v B3 H3 ((g1.trans g2).trans g3) r⟩
/-- t.undo(), an edit stands -/
theorem cps_undo {L : List Sl} {i : Nat} {t ls lf le N : Addr} {sts fins eds : List PyData} {E' : XK} {B H : Hp} {σ : St} {Q : VK} (eb : Ex B H) (E : Env H B H σ L) (hi : L[i]? = some (.v (.ref t))) (T : TripS C B H t ls lf le sts fins eds) (n1 : eds ≠ []) (n2 : sts ≠ []) (n3 : fins ≠ [])
    (q : ∀ B' H', GrowM (Lists ls lf le) B H B' H' → TripS C B' H' t ls lf le sts.dropLast fins.dropLast eds.dropLast → Q (.int (eds.length - 1 : Nat)) H') : tMeth C "undo" (spUn C N) [] E' (tVar i) tNil σ H Q := by
  rcases E.at_ i _ hi with z | ⟨v, hv, o⟩
  · cases z
  obtain rfl : v = .ref t := o
  obtain ⟨dx, ei⟩ := T.ins
  exact ⟨.ref t, hv, t, dx, _, rfl, ei, rfl, B, t, ls, lf, le, sts, fins, eds, eb, T, rfl, .inr ⟨n1, n2, n3, q⟩⟩
theorem f_law_edits_right {N : Addr} (G : Gs K mg) (tc : TripC K C) (oN : Own0 K mg "NothingToUndo" N) (exm : PySem.W.exmOne K (.ref N) (.ref N) = some true) (c_law_do : C8.Cal P w K mg base 9 "_law_do" (spEd C fun e _ ds => ds = [e]) []) (c_state : CalS P w K mg base C 3) (c_undo : CalM P w K mg base C (L2.CX P w) 2 "undo" (spUn C N)) (D : DefF K mg "_law_edits_right" s_law_edits_right) :
    C8.Cal P w K mg base 10 "_law_edits_right" (spLe C) [] := by
  obtain ⟨f, fd, Fn, m⟩ := D
  have sc := sc_law_edits_right
  refine ⟨f, fd, ["_law_table", "_law_state"], [], ?_, m, Fn.kp, Fn.binds (fun _ _ _ _ _ _ us hl => match us, hl with | [_, _], _ => rfl), .nil⟩
  refine Fn.ok sc (fun vs H Q E h => ?_) (fun cdv A outer s H vs Q E hr h => ?_)
  · obtain ⟨B, t, ls, lf, le, v, wk, rd, bs, ss, _, _, rfl, _⟩ := h
    rfl
  have hu := hr.units
  refine ⟨_, (pss_cons (ps_set (i := 2) sc.nd rfl (Or.inl rfl) (pe_ifExp (pt_cmpR op_gt (u_len G (pa_cons (pe_ix (kx_ix G) (pv 1) pe_int (fun _ _ => rfl)) pa_nil)) pe_int (nomark _)) (pe_tup (pa_cons pe_str (pa_cons pe_int pa_nil))) (pe_tup (pa_cons pe_str (pa_cons pe_int pa_nil)))))
      (pss_cons (ps_if (PW.pt (pw_or (pt_cmpR (kx_ne G hu) (C8.pe_c c_law_do hr (by decide) (by rfl) (pa_cons (pv 0) (pa_cons (pv 2) pa_nil))) pe_int (nomark _)) (pw_or (pt_cmpR (kx_ne G hu) (pe_stN c_state tc.cls hr (by decide) (pv 0) (pk_cons pe_int pk_nil)) (u_tuple G (pa_cons (pv 1) pa_nil)) (nomark _)) (pw_or1 (pt_cmpR (kx_ne G hu) (pe_cm0 c_undo tc.cls passL hr (by decide) (pv 0)) pe_int (nomark _)))))) (pss_one (ps_ret pe_bl)) pss_nil)
      (pss_cons (ps_set (i := 3) sc.nd rfl (Or.inl rfl) pe_bl)
      (pss_cons (ps_try_as (i := 4) (x := "NothingToUndo") (tb := fun W => tAsg (tOp (rI0 fun i j => .bl (decide (i < j))) (tMethS0 C "undo" (spUn C N) (WE W) (tVar 0)) (tC (.int 0))) (gName 3)) (ts := fun _ _ _ => tAsg (tC (.bl true)) (gName 3)) (Wout := fun _ _ _ _ => False) rfl rfl sc.nd rfl rfl ⟨rfl, by decide, Or.inl oN.gC⟩ takes0 (fun W pn xe tk _ => (pss_one (ps_set (i := 3) sc.nd rfl (Or.inl rfl) (pe_cmpR op_lt (pe_cmS0 c_undo tc.cls (fun σ => passAt tk σ) hr (by decide) (pv 0)) pe_int (nomark _))))) (fun a oe cls d pn hz hf => (pss_one (ps_set (i := 3) sc.nd rfl (Or.inl rfl) pe_bl))))
      (pss_one (ps_ret (pv 3))))))), ?_⟩
  obtain ⟨B, t, ls, lf, le, v, wk, rd, bs, ss, eb, T, rfl, rv, good, q⟩ := h
  have E0 : Env H B H (L2.start n_law_edits_right [.ref t, v]) [.v (.ref t), .d (.list [roadD wk rd bs, intsD ss]), .u, .u, .u] := env_startT (dpa_one rv)
  -- the edit
  obtain ⟨e, ss', he, good', ee⟩ : ∃ e ss', EditOf ss e ss' ∧ Good wk rd bs ss' ∧ (if ss.length > 1 then PyData.tuple [.str "leave", .int 0] else .tuple [.str "come", .int 7]) = e := by
    have hl := good.ls
    by_cases h : ss.length > 1
    · refine ⟨_, ss.drop 1, .leave ss (by omega) (by omega), ⟨good.wr, good.lb, good.b, ⟨by rw [List.length_drop]; omega, by rw [List.length_drop]; omega⟩, fun x hx => good.s x (List.mem_of_mem_drop hx)⟩, by rw [if_pos h]⟩
    · refine ⟨_, ss ++ [7], .come ss 7 (by omega) (by omega) (by omega), ⟨good.wr, good.lb, good.b, ⟨by simp, by simp; omega⟩, fun x hx => ?_⟩, by rw [if_neg h]⟩
      rcases List.mem_append.mp hx with h | h
      · exact good.s x h
      · rw [List.mem_singleton.mp h]; omega
  refine RunE.then (F := Tr0) (M := [.v (.ref t), .d (.list [roadD wk rd bs, intsD ss]), .d e, .u, .u]) trivial (.rfl' eb) E0 (r_asg (s := .d e) (e_if (b := decide ((ss.length : Int) > 1)) ((t_test (e_cmp (p := fun i j => decide (i > j)) (c_len (xs := ss.map PyData.int) (a_cons (e_ix (xs := [roadD wk rd bs, intsD ss]) (i := 1) (d := intsD ss) (e_var rfl) (.inl rfl) e_int rfl) a_nil) (.inr rfl)) e_int)).is (by rw [List.length_map])) (fun h => (e_tup (ds := [.str "leave", .int 0]) (a_cons e_str (a_cons e_int a_nil)) (by simp)).is ?_) fun h => (e_tup (ds := [.str "come", .int 7]) (a_cons e_str (a_cons e_int a_nil)) (by simp)).is ?_) rfl rfl) fun B1 H1 σ1 g1 x1 E1 => ?_
  · rw [← ee, if_pos (by have := of_decide_eq_true h; omega)]
  · rw [← ee, if_neg (by have := of_decide_eq_false h; omega)]
  have T1 := T.mono g1
  have E1' : Env H1 B1 H1 σ1 [.v (.ref t), .d (.list [roadD wk rd bs, intsD ss]), .d e, .u, .u] := E1.flat rfl
  -- the three tests
  have sh1 : SeqAt.shaped (PyData.tuple [roadD wk rd bs, intsD ss]) = true := shaped_state wk rd bs ss
  refine cps_seqIf (cps_orNe (cps_callA (F := Tr0) (ss := [.v (.ref t), .d e]) (a_cons (e_var rfl) (a_cons (e_var rfl) a_nil)) trivial g1.bh E1' fun vs2 B2 H2 g2 o2 => ?_))
  obtain ⟨v1, v2, rfl, p1, p2⟩ := ok2 o2
  obtain rfl : v1 = .ref t := p1
  rw [List.append_nil]
  refine ⟨B2, t, ls, lf, le, _, _, [], [v2], [e], g2.bh, T1.mono g2, rfl, dpa_one p2, wk, rd, bs, ss, ss', e, rfl, rfl, good', he, by simp, by simp, by simp, fun B3 H3 m3 T3 => ?_⟩
  have m13 := (g1.trans g2).toM.trans m3
  have E3 : Env H3 B3 H3 σ1 [.v (.ref t), .d (.list [roadD wk rd bs, intsD ss]), .d e, .u, .u] := E1'.flatB rfl (g2.bb.trans m3.bb)
  refine .inl ⟨rfl, _, rfl, if_no rfl ?_⟩
  refine tor_go (EvT.go (F := FT C t ls lf le _ _ _) (b := false) ((t_test (e_ne (x := .tuple [roadD wk rd bs, intsD ss]) (y := .tuple [roadD wk rd bs, intsD ss]) (e_stN (i := 0) (fun _ _ h => h) (e_var rfl) e_int (Nat.zero_le _) rfl) rfl (c_tup (xs := [roadD wk rd bs, intsD ss]) (a_cons (e_var rfl) a_nil) (.inl rfl)) rfl sh1 sh1)).is (by rw [SeqAt.eqv_refl _ (SeqAt.canLay_of_shaped sh1)]; rfl)) T3 m3.bh E3 fun B4 H4 g4 => if_no rfl ?_)
  have T4 := T3.mono g4
  have E4 : Env H4 B4 H4 σ1 [.v (.ref t), .d (.list [roadD wk rd bs, intsD ss]), .d e, .u, .u] := E3.flatB rfl g4.bb
  refine cps_testNe (cps_undo g4.bh E4 rfl T4 (by simp) (by simp) (by simp) fun B5 H5 m5 T5 => .inl ⟨rfl, _, rfl, if_no rfl ?_⟩)
  have m15 := (m13.trans g4.toM).trans m5
  have E5 : Env H5 B5 H5 σ1 [.v (.ref t), .d (.list [roadD wk rd bs, intsD ss]), .d e, .u, .u] := E4.flatB rfl m5.bb
  refine cps_seqE ?_
  have E6 : Env H5 B5 H5 (σ1.set 3 (some (.bl false))) [.v (.ref t), .d (.list [roadD wk rd bs, intsD ss]), .d e, .v (.bl false), .u] := E5.set (i := 3) (s := .v (.bl false)) rfl rfl
  have h0 : (σ1.set 3 (some (.bl false)))[0]? = some (some (.ref t)) := by
    rcases E6.at_ 0 _ rfl with z | ⟨v, hv, o⟩
    · cases z
    · rw [hv, show v = .ref t from o]
  have hlen : (σ1.set 3 (some (.bl false))).length = 5 := E6.len
  obtain ⟨dx, ei⟩ := T5.ins
  refine ⟨.ref t, h0, t, dx, _, rfl, ei, rfl, B5, t, ls, lf, le, _, _, _, m5.bh, T5, rfl, .inl ⟨rfl, fun H6 ex => ?_⟩⟩
  refine ⟨true, exm, fun _ a ha => ?_, fun z => nomatch z⟩
  have g6 : Grow B5 H5 B5 H6 := ⟨Ex.refl B5, ex, m5.bh.trans ex, fun _ _ _ n => n⟩
  refine ⟨.bl true, ?_, q B5 H6 (m15.trans g6.toM) (T5.mono g6)⟩
  rw [List.getElem?_set_ne (by decide), List.getElem?_set_self (by rw [List.length_set, hlen]; decide)]
end
end K45
-- BN
set_option maxHeartbeats 4000000
namespace K45
open PySem PySem.Spec PyProof.Rows L2
open Evl (Ex ex_rd ex_l ex_t)
def rIsDg (K : PySem.W.Frag) (D a : Addr) (cls : Value) (d : Option Addr) : List V → Hp → VK → Prop := fun xs H Q => cls = .ref D ∧ ∃ dd, d = some dd ∧ rIsD K D a dd xs H Q
def rIsDTg (K : PySem.W.Frag) (D a : Addr) (cls : Value) (d : Option Addr) : List V → Hp → VK → Prop := fun xs H Q => cls = .ref D ∧ ∃ dd, d = some dd ∧ rIsDT K D a dd xs H Q
section
variable {X : Cx} {a D : Addr} {cls : Value} {d : Option Addr} {oe : Obj} {pn : List (Addr × Obj)}
theorem call_isDg (C : ExcC X.K D) (hz : Zc cls d oe) (hf : ∃ vs, oe.data = .fields vs) : CallR (X.suite a ((a, oe) :: pn)) (.builtin "isinstance") (rIsDg X.K D a cls d) := by
  intro pins s σ H xs us Q I r h
  obtain ⟨rfl, dd, rfl, h⟩ := h
  exact call_isD C hz hf pins s σ H xs us Q I r h
theorem call_isDTg (C : ExcC X.K D) (hz : Zc cls d oe) (hf : ∃ vs, oe.data = .fields vs) : CallR (X.suite a ((a, oe) :: pn)) (.builtin "isinstance") (rIsDTg X.K D a cls d) := by
  intro pins s σ H xs us Q I r h
  obtain ⟨rfl, dd, rfl, h⟩ := h
  exact call_isDT C hz hf pins s σ H xs us Q I r h
end
/-- what the law's reader asks of the classes -/
structure ReadF (K : PySem.W.Frag) (mg : Str → Option Value) (CB TE BR BS TL : Addr) : Prop where
  gTE : mg "TripError" = some (.ref TE)
  gBR : mg "BadRoad" = some (.ref BR)
  gBS : mg "BadStarts" = some (.ref BS)
  gTL : mg "TooLong" = some (.ref TL)
  ve : mg "ValueError" = none
  exm : PySem.W.exmOne K (.ref CB) (.ref TE) = some true
  exc : ExcC K CB
  xf : XfC K CB
  no : PySem.W.findIn K (.ref CB) "index" = some none
  k1 : PySem.W.kitOne K (.ref CB) (.ref CB) = some true
  k2 : PySem.W.kitOne K (.ref CB) (.type "ValueError") = some true
  k3 : PySem.W.kitAny K (.ref CB) [.ref BR, .ref BS, .ref TL] = some false
section
variable {P : Program} {w : World} {K : PySem.W.Frag} {mg : Str → Option Value} {base : Heap} {C CB TE BR BS TL : Addr}
/-- Trip.read as a classmethod -/
structure CalR (P : Program) (w : World) (K : PySem.W.Frag) (mg : Str → Option Value) (base : Heap) (C : Addr) (k : Nat) (m : Str) (sp : Sp) : Prop where
  ex : ∃ mc p g fd ps, ClX.CRead K C mc ∧ ClX.CMet K C mc m p g ∧ FnOk P w K mg base (L2.CX P w) k g fd ps sp ∧ Binds K fd ps []
def spLread (C : Addr) : Sp := fun vs H Q _ => ∃ B d v, Ex B H ∧ vs = [v] ∧ Rp B v d ∧
  ((tyN d ≠ "str" ∧ kitB (tyN d) "str" = some false ∧ ∀ v' B' H', Grow B H B' H' → Rp B' v' (.list [.str "text", .none]) → Q v' H') ∨
    ∃ x, d = .str x ∧ Tx x ∧ (∀ n, dueN (Txt.split x blank1) = some n → ∀ v' B' H', Grow B H B' H' → Rp B' v' (.list [.str "text", .int (n : Nat)]) → Q v' H') ∧
      (dueN (Txt.split x blank1) = none → ∀ w r bs ss, okD (Txt.split x blank1) = .tuple [roadD w r bs, intsD ss] → Good w r bs ss → ∀ t ls lf le B' H', NewT C B H B' H' w r bs ss t ls lf le → Q (.ref t) H'))
abbrev s_law_read : Stmt := top 85
abbrev n_law_read : List Str := ["_law_value", "e"]
theorem sc_law_read : FnScope n_law_read ["_law_value"] (defScope s_law_read) := ⟨rfl, rfl, rfl, by decide +kernel, rfl, by decide +kernel, by decide +kernel⟩
/-- the suite: ['text', e.index] -/
theorem suite_read {C : Addr} (rf : ReadF K mg CB TE BR BS TL) {dd a : Addr} {iv : V} {σ : L2.St} {H H' : Hp} {B : Hp} {D : Ends} {idx : PyData} (eb : Ex B H) (ex : Ex H H') (hd : H' dd = some (.xd [(("index" : Str), iv)])) (hs : σ[1]? = some (some (.ref a))) (hi : ∀ B', Rp B' iv idx)
    (q : ∀ v' B' H', Grow B H B' H' → Rp B' v' (.list [.str "text", idx]) → D.rt v' H') : (tIfS (tAnd (tTest (tCB (rIsDg K CB a (.ref CB) (some dd)) (tCons (tVar 1) (tCons (tC (.ref CB)) tNil)))) (tAnd (tTest (tCB (rIsDg K CB a (.ref CB) (some dd)) (tCons (tVar 1) (tCons (tC (.ty "ValueError")) tNil)))) (tNot (tTest (tCB (rIsDTg K CB a (.ref CB) (some dd)) (tCons (tVar 1) (tCons (tTup (tCons (tC (.ref BR)) (tCons (tC (.ref BS)) (tCons (tC (.ref TL)) tNil)))) tNil))))))) (tRet (tLst (tCons (tC (.str "text")) (tCons (tXf a (.ref CB) (some dd) CB "index" (tVar 1)) tNil)))) tNext) D σ H' := by
  have g0 : Grow B H B H' := ⟨Ex.refl B, ex, eb.trans ex, fun _ _ _ n => n⟩
  refine ⟨.ref a, hs, rfl, dd, rfl, .ref CB, .ref CB, true, _, rfl, .own CB, hd, rf.k1, true, rfl, if_yes rfl ?_⟩
  refine ⟨.ref a, hs, rfl, dd, rfl, .ty "ValueError", .type "ValueError", true, _, rfl, .ty _, hd, rf.k2, true, rfl, if_yes rfl ?_⟩
  refine ⟨.ref a, hs, (by decide : (3 : Nat) ≤ sizeLine), fun tp htp => ?_⟩
  have hd2 : (upd H' tp (.tup [.ref BR, .ref BS, .ref TL])) dd = some (.xd [(("index" : Str), iv)]) := by rw [upd_ne (ne_of_none hd htp)]; exact hd
  refine ⟨rfl, dd, rfl, tp, [.ref BR, .ref BS, .ref TL], [.ref BR, .ref BS, .ref TL], false, _, rfl, upd_same, .cons (.own _) (.cons (.own _) (.cons (.own _) .nil)), hd2, rf.k3, false, rfl, ?_⟩
  refine if_yes rfl ?_
  refine ⟨.ref a, hs, rfl, rfl, dd, _, iv, rfl, hd2, rfl, (by decide : (2 : Nat) ≤ sizeLine), fun p hp => ?_⟩
  have g1 : Grow B H' B (upd H' tp (.tup [.ref BR, .ref BS, .ref TL])) := Grow.side g0.bh htp
  have g2 : Grow B (upd H' tp (.tup [.ref BR, .ref BS, .ref TL])) (upd B p (.lst [.str "text", iv])) (upd (upd H' tp (.tup [.ref BR, .ref BS, .ref TL])) p (.lst [.str "text", iv])) := Grow.put g1.bh hp
  exact q _ _ _ ((g0.trans g1).trans g2) (.lst upd_same (.cons (.str _) (.cons (hi _) .nil)))
theorem f_law_read (G : Gs K mg) (ti : TripI K mg C) (rf : ReadF K mg CB TE BR BS TL) (cB : CalB P w K mg base CB) (c_read : CalR P w K mg base C 9 "read" (spRd C CB)) (D : DefF K mg "_law_read" s_law_read) : C8.Cal P w K mg base 10 "_law_read" (spLread C) [] := by
  obtain ⟨f, fd, Fn, m⟩ := D
  obtain ⟨mc, p, g, fdR, psR, cr, cm, FR, bR⟩ := c_read.ex
  have sc := sc_law_read
  refine ⟨f, fd, ["_law_value"], [], ?_, m, Fn.kp, Fn.binds (fun _ _ _ _ _ _ us hl => match us, hl with | [_], _ => rfl), .nil⟩
  refine Fn.ok sc (fun vs H Q E h => ?_) (fun cdv A outer s H vs Q E hr h => ?_)
  · obtain ⟨B, d, v, _, rfl, _⟩ := h
    rfl
  have hu := hr.units
  refine ⟨_, (pss_cons (ps_try_as (i := 1) (x := "TripError") (tb := fun W => tRet (tCMethS C (fun vs H Q E => spRd C CB (vs ++ []) H Q E) (WE W) (tC (.ref C)) (tCons (tVar 0) tNil))) (ts := fun a cls d => tIfS (tAnd (tTest (tCB (rIsDg K CB a cls d) (tCons (tVar 1) (tCons (tC (.ref CB)) tNil)))) (tAnd (tTest (tCB (rIsDg K CB a cls d) (tCons (tVar 1) (tCons (tC (.ty "ValueError")) tNil)))) (tNot (tTest (tCB (rIsDTg K CB a cls d) (tCons (tVar 1) (tCons (tTup (tCons (tC (.ref BR)) (tCons (tC (.ref BS)) (tCons (tC (.ref TL)) tNil)))) tNil))))))) (tRet (tLst (tCons (tC (.str "text")) (tCons (tXf a cls d CB "index" (tVar 1)) tNil)))) tNext) (Wout := fun _ _ _ _ => False) rfl rfl sc.nd rfl rfl ⟨rfl, by decide, Or.inl rf.gTE⟩ takes0 (fun W pn xe tk _ => (pss_one (ps_ret (pe_cmethS (pe_glob (v := .ref C) rfl ti.gC rfl) cr cm (FR.raw bR .nil) hr (fun σ => passAt tk σ) (pa_cons (pv 0) pa_nil))))) (fun a oe cls d pn hz hf => (pss_one (ps_if (PW.pt (pw_and (pt_val (pe_callB (call_isDg rf.exc hz hf) rfl G.isinstance (by decide +kernel) (pa_cons (pv 1) (pa_cons (pe_glob (v := .ref CB) rfl cB.gC rfl) pa_nil)) (by decide) (by decide))) (pw_and (pt_val (pe_callB (call_isDg rf.exc hz hf) rfl G.isinstance (by decide +kernel) (pa_cons (pv 1) (pa_cons (u_ty "ValueError" rf.ve rfl) pa_nil)) (by decide) (by decide))) (pw_and1 (pt_not (pt_val (pe_callB (call_isDTg rf.exc hz hf) rfl G.isinstance (by decide +kernel) (pa_cons (pv 1) (pa_cons (pe_tup (pa_cons (pe_glob (v := .ref BR) rfl rf.gBR rfl) (pa_cons (pe_glob (v := .ref BS) rfl rf.gBS rfl) (pa_cons (pe_glob (v := .ref TL) rfl rf.gTL rfl) pa_nil)))) pa_nil)) (by decide) (by decide)))))))) (pss_one (ps_ret (pe_lst (pa_cons pe_str (pa_cons (pe_xf rf.xf rf.no hz hf (pv 1)) pa_nil))))) pss_nil)))) pss_dead), ?_⟩
  obtain ⟨B, d, v, eb, rfl, rv, h⟩ := h
  have hno : ∀ a : Addr, (List.set (L2.start n_law_read [v]) 1 (some (.ref a)))[1]? = some (some (.ref a)) := fun a => rfl
  refine ⟨rfl, v, rfl, ?_⟩
  refine ⟨B, d, v, eb, rfl, rv, ?_⟩
  rcases h with ⟨h1, h2, q⟩ | ⟨x, rfl, tx, q1, q2⟩
  · refine .inl ⟨h1, h2, fun dd H' ex hd => ⟨true, rf.exm, fun _ a ha => ?_, fun z => nomatch z⟩⟩
    exact suite_read (C := C) (idx := .none) rf eb ex hd (hno a) (fun _ => .non) q
  · refine .inr ⟨x, rfl, tx, fun n hn dd H' ex hd => ⟨true, rf.exm, fun _ a ha => ?_, fun z => nomatch z⟩, q2⟩
    exact suite_read (C := C) (idx := .int (n : Nat)) rf eb ex hd (hno a) (fun _ => .int _) (q1 n hn)
end
end K45
-- BO
set_option maxHeartbeats 600000
namespace K45
open PySem PySem.Spec PyProof.Rows L2
open Evl (Ex ex_rd ex_l ex_t)
/-! ### what repr makes of data of ints and short texts -/
def foundD (w r f : Int) (bs ss : List Int) : PyData := .list [roadD w r bs, intsD ss, .int f, .tuple [roadD w r bs, intsD ss], .tuple [], .int 0]
theorem shown_int {i : Int} (h : Small i) : (PyData.shown (.int i)).length ≤ 12 := by
  have := numS_len h
  show (numS i).length ≤ 12
  omega
theorem short_ints {l : List Int} (h : ∀ b ∈ l, Small b) : PyData.leavesShortAll 12 (l.map PyData.int) = true := by
  induction l with
  | nil => rfl
  | cons a l ih =>
    rw [List.map_cons, PyData.leavesShortAll, ih fun b hb => h b (List.mem_cons_of_mem _ hb), Bool.and_true]
    show decide _ = true
    exact decide_eq_true (shown_int (h a List.mem_cons_self))
theorem bulk_ints (l : List Int) : PyData.bulkAll (l.map PyData.int) = l.length := by
  induction l with
  | nil => rfl
  | cons a l ih => rw [List.map_cons, PyData.bulkAll, ih, List.length_cons]; show 0 + 1 + _ = _; omega
theorem show_int {i : Int} (h : Small i) : PyData.showable (.int i) = true := decide_eq_true (small_log h)
theorem show_ints {l : List Int} (h : ∀ b ∈ l, Small b) : PyData.showableAll (l.map PyData.int) = true := by
  induction l with
  | nil => rfl
  | cons a l ih => rw [List.map_cons, PyData.showableAll, ih fun b hb => h b (List.mem_cons_of_mem _ hb), Bool.and_true]; exact show_int (h a List.mem_cons_self)
theorem dict_ints (l : List Int) : PyData.hasDictAll (l.map PyData.int) = false := by
  induction l with
  | nil => rfl
  | cons a l ih => rw [List.map_cons, PyData.hasDictAll, ih]; rfl
theorem depth_ints (l : List Int) : PyData.depthAll (l.map PyData.int) = 0 := by
  have := depth_all (n := 0) (l := l.map PyData.int) fun d hd => by obtain ⟨i, _, rfl⟩ := List.mem_map.mp hd; exact Nat.le_refl 0
  omega
/-- fit for repr -/
structure Shw (d : PyData) : Prop where
  lay : d.canLay0 = true
  shw : d.showable = true
  dic : d.hasDict = false
  len : d.shown.length ≤ sizeLine
  dep : d.depth ≤ 20
theorem shw_found {w r f : Int} {bs ss : List Int} (hw : Small w) (hr : Small r) (hf : Small f) (hb : ∀ b ∈ bs, Small b) (hs : ∀ b ∈ ss, Small b) (lb : bs.length ≤ 1000) (ls : ss.length ≤ 1000) : Shw (foundD w r f bs ss) where
  lay := by simp [foundD, PyData.canLay0, PyData.canLayAll0, canInts]
  shw := by
    have z : Small 0 := ⟨by omega, by omega⟩
    simp only [foundD, PyData.showable, PyData.showableAll, show_ints hb, show_ints hs, decide_eq_true (small_log hw), decide_eq_true (small_log hr), decide_eq_true (small_log hf), decide_eq_true (small_log z), Bool.and_self]
  dic := by simp [foundD, PyData.hasDict, PyData.hasDictAll, dict_ints]
  len := by
    have a := shown_int hw
    have b := shown_int hr
    have c := shown_int hf
    have z := shown_int (i := 0) ⟨by omega, by omega⟩
    have h := PyData.shown_le_bulk 12 (by omega) (foundD w r f bs ss) (by simp [foundD, PyData.leavesShort, PyData.leavesShortAll, short_ints hb, short_ints hs, a, b, c, z])
    have e : (foundD w r f bs ss).bulk ≤ 5000 := by
      simp only [foundD, PyData.bulk, PyData.bulkAll, bulk_ints]
      omega
    have e2 : (12 + 2) * (foundD w r f bs ss).bulk ≤ 14 * 5000 := Nat.mul_le_mul_left _ e
    exact Nat.le_trans h (Nat.le_trans (by omega : _ ≤ 100000) (by decide))
  dep := by
    simp only [foundD, PyData.depth, PyData.depthAll, depth_ints]
    omega
theorem shw_text (n : PyData) (hn : n = .none ∨ ∃ k : Nat, n = .int (k : Int) ∧ k ≤ 100000) : Shw (.list [.str "text", n]) := by
  rcases hn with rfl | ⟨k, rfl, hk⟩
  · exact ⟨by decide +kernel, by decide +kernel, rfl, by decide +kernel, by decide⟩
  · have a := shown_int (i := (k : Int)) ⟨by omega, by omega⟩
    have h := PyData.shown_le_bulk 12 (by omega) (.list [.str "text", .int (k : Int)]) (by simp [PyData.leavesShort, PyData.leavesShortAll, a]; decide)
    exact ⟨by simp [PyData.canLay0, PyData.canLayAll0]; decide +kernel, by simp only [PyData.showable, PyData.showableAll, decide_eq_true (small_log (n := (k : Int)) ⟨by omega, by omega⟩), Bool.and_self], by simp [PyData.hasDict, PyData.hasDictAll], Nat.le_trans h (by simp only [PyData.bulk, PyData.bulkAll]; decide), by simp [PyData.depth, PyData.depthAll]⟩
/-! ### the text of a trip, told twice -/
def wordsT (bs ss : List Int) (f : Int) : List Str := [numS (bs.length : Nat), "stages,", numS bs.sum, "bicycles,", numS (ss.length : Nat), "people, finish"] ++ [numS f ++ ",", numS 0, "edits"]
theorem tripStr_eq (bs ss : List Int) (f : Int) : tripStr bs ss f 0 = Txt.join blank1 (wordsT bs ss f) := by
  have inj : ∀ {x y : Str}, tl x = tl y → x = y := fun {x y} h => by
    obtain ⟨⟨a⟩⟩ := x
    obtain ⟨⟨b⟩⟩ := y
    have h : a = b := h
    rw [h]
  apply inj
  rw [join_tl]
  unfold tripStr firstS wordsT
  simp only [catS_tl, List.map_cons, List.map_nil, List.flatten_cons, List.flatten_nil, List.append_nil, List.cons_append, List.nil_append, TL.joinL, tl_app]
  have l0 : tl Str.empty = [] := rfl
  have l1 : tl (" stages, " : Str) = [32] ++ tl ("stages," : Str) ++ [32] := by decide
  have l2 : tl (" bicycles, " : Str) = [32] ++ tl ("bicycles," : Str) ++ [32] := by decide
  have l3 : tl (" people" : Str) ++ tl (", finish " : Str) = [32] ++ tl ("people, finish" : Str) ++ [32] := by decide
  have l4 : tl (", " : Str) = tl ("," : Str) ++ [32] := by decide
  have l5 : tl (" edits" : Str) = [32] ++ tl ("edits" : Str) := by decide
  have lb : tl blank1 = [32] := by decide
  rw [lb, l0, l1, l2, l4, l5]
  simp only [List.nil_append, List.append_assoc, List.cons_append]
  have l3' : ∀ z, tl (" people" : Str) ++ (tl (", finish " : Str) ++ z) = 32 :: (tl ("people, finish" : Str) ++ 32 :: z) := fun z => by
    rw [← List.append_assoc, l3]; simp
  rw [l3']
  rfl
section
variable {P : Program} {w : World} {K : PySem.W.Frag} {mg : Str → Option Value} {base : Heap} {C : Addr}
theorem i0 : Small 0 := ⟨by omega, by omega⟩
/-- a property -/
structure CalP (P : Program) (w : World) (K : PySem.W.Frag) (mg : Str → Option Value) (base : Heap) (C : Addr) (k : Nat) (f : Str) (sp : Sp) : Prop where
  ex : ∃ p g fd ps, PropOf K C f p g ∧ FnOk P w K mg base CX0 k g fd ps sp ∧ Binds K fd ps []
section
variable {X : Cx} {k j : Nat} {f : Str} {sp : Sp} {e : Expr} {es : List Expr} {p pos : Pos} {ta : TE} {t : TA}
theorem pe_pr (c : CalP X.prog X.w X.K X.mg X.base C k f sp) (cc : Cls X.K C) (hr : Room j X.A) (hk : k + 1 ≤ j) (he : PE X e ta) (hab : attributeBase e f X.env (eval e X.env) = eval e X.env := by rfl) : PE X (.Attribute e f pos) (tProp C sp [] E0 ta) := by
  obtain ⟨p, g, fd, ps, hp, F, b⟩ := c.ex
  exact pe_prop he cc hp F (hr.mono hk) b .nil pass0 hab
theorem pe_lenO (c : CalM X.prog X.w X.K X.mg X.base C CX0 k "__len__" sp) (hr : Room j X.A) (hk : k + 1 ≤ j) (hg : Gl X "len") (hm : X.mg "len" = none) (ha : PA X (e :: es) t)
    (he : starEach (e :: es) X.env = (false, eval e X.env) :: starEach es X.env := by rfl) (hpl : (backTo pos (starEach es X.env)).any (·.1) = false := by rfl) : PE X (.Call (.Name "len" p) (e :: es) [] pos) (tCB (rLenO C sp) t) := by
  obtain ⟨g, fd, ps, F, hmm, b⟩ := c.ex
  exact pe_callB (call_lenO F hmm b (hr.mono hk)) hg hm boot_len ha (by decide) (by decide) he hpl
theorem pe_strO (c : CalM X.prog X.w X.K X.mg X.base C CX0 k "__str__" sp) (hr : Room j X.A) (hk : k + 2 ≤ j) (hg : Gl X "str") (hm : X.mg "str" = none) (ha : PA X (e :: es) t)
    (he : starEach (e :: es) X.env = (false, eval e X.env) :: starEach es X.env := by rfl) (hpl : (backTo pos (starEach es X.env)).any (·.1) = false := by rfl) : PE X (.Call (.Name "str" p) (e :: es) [] pos) (tCB (rStrO C sp) t) := by
  obtain ⟨g, fd, ps, F, hmm, b⟩ := c.ex
  exact pe_callTy (call_strO F hmm b (hr.mono hk)) hg hm boot_str ha (by decide) (by decide) he hpl
theorem pe_repr (hgd : X.A.guards = some []) (hr : Room j X.A) (hg : Gl X "repr") (hm : X.mg "repr" = none) (ha : PA X (e :: es) t)
    (he : starEach (e :: es) X.env = (false, eval e X.env) :: starEach es X.env := by rfl) (hpl : (backTo pos (starEach es X.env)).any (·.1) = false := by rfl) : PE X (.Call (.Name "repr" p) (e :: es) [] pos) (tCB (rRepr X.K) t) :=
  pe_callB (call_reprD hgd hr.units) hg hm (by decide +kernel) ha (by decide) (by decide) he hpl
end
theorem g_lst {K : PySem.W.Frag} {tg : TGs} {js : List Nat} {ds es : List PyData} {n : Nat} (h : TgsE tg js ds es) (hn : ds.length = n := by rfl) : TgE (gLst K n tg) js (.list ds) es := fun B H σ v Q e r q => by
  obtain ⟨a, vs, rfl, ea, ra⟩ := dp_lst r
  exact ⟨a, vs, rfl, SqL.of (e _ _ ea), by rw [RpAll.len ra, hn], h B H σ vs Q e ra q⟩
def spRight (C : Addr) : Sp := fun vs H Q _ => ∃ B t ls lf le v v2 wk rd bs ss, Ex B H ∧ TripS C B H t ls lf le [.tuple [roadD wk rd bs, intsD ss]] [.int (finishOf wk rd bs ss)] [] ∧ vs = [.ref t, v, v2] ∧ Rp B v (.list [roadD wk rd bs, intsD ss]) ∧ Rp B v2 (.list []) ∧ Good wk rd bs ss ∧ Small (finishOf wk rd bs ss) ∧
  ∀ B' H', Grow B H B' H' → Q (.bl true) H'
abbrev s_law_right : Stmt := top 79
abbrev n_law_right : List Str := ["_law_table", "_law_state", "_law_edits", "_law_road_here", "_law_starts_here", "_law_due_here", "_law_found", "_law_words"]
theorem sc_law_right : FnScope n_law_right ["_law_table", "_law_state", "_law_edits"] (defScope s_law_right) := ⟨rfl, rfl, rfl, by decide +kernel, rfl, by decide +kernel, by decide +kernel⟩
theorem f_law_right (G : Gs K mg) (tc : TripC K C) (c_law_finish : Cal P w K mg base 2 "_law_finish" R_law_finish) (c_road : CalP P w K mg base C 1 "road" (spT C R_road)) (c_starts : CalP P w K mg base C 1 "starts" (spT C R_starts)) (c_finish : CalP P w K mg base C 1 "finish" (spT C R_finish))
    (c_state : CalS P w K mg base C 3) (c_edits : CalM P w K mg base C CX0 1 "edits" (spT C R_edits)) (m_len : CalM P w K mg base C CX0 1 "__len__" (spT C R_len)) (m_str : CalM P w K mg base C CX0 1 "__str__" (spT C R_str)) (D : DefF K mg "_law_right" s_law_right) : CalGd P w K mg base 10 "_law_right" (spRight C) := by
  obtain ⟨f, fd, Fn, m⟩ := D
  have sc := sc_law_right
  refine ⟨f, fd, ["_law_table", "_law_state", "_law_edits"], ?_, m, Fn.kp, Fn.binds (fun _ _ _ _ _ _ us hl => match us, hl with | [_, _, _], _ => rfl)⟩
  refine K45.Fun.okG Fn sc (fun vs H Q E h => ?_) (fun cdv A outer s H vs Q E hgd hr h => ?_)
  · obtain ⟨B, t, ls, lf, le, v, v2, wk, rd, bs, ss, _, _, rfl, _⟩ := h
    rfl
  have hu := hr.units
  refine ⟨_, (pss_cons (ps_asg (pv 1) (pg_lst rfl (pgs_cons (pg_name (i := 3) sc.nd rfl (Or.inl rfl)) (pgs_cons (pg_name (i := 4) sc.nd rfl (Or.inl rfl)) pgs_nil)) (by rfl)))
      (pss_cons (ps_set (i := 5) sc.nd rfl (Or.inl rfl) (C8.pe_c c_law_finish hr (by decide) (by rfl) (pa_cons (pv 3) (pa_cons (pv 4) pa_nil))))
      (pss_cons (ps_set (i := 6) sc.nd rfl (Or.inl rfl) (pe_lst (pa_cons (pe_pr c_road tc.cls hr (by decide) (pv 0)) (pa_cons (pe_pr c_starts tc.cls hr (by decide) (pv 0)) (pa_cons (pe_pr c_finish tc.cls hr (by decide) (pv 0)) (pa_cons (pe_st0 c_state tc.cls hr (by decide) (pv 0)) (pa_cons (pe_cm0 c_edits tc.cls pass0 hr (by decide) (pv 0)) (pa_cons (pe_lenO m_len hr (by decide) rfl G.len (pa_cons (pv 0) pa_nil)) pa_nil))))))))
      (pss_cons (ps_if (pt_cmpR (kx_ne G hu) (pe_repr hgd hr rfl G.repr (pa_cons (pv 6) pa_nil)) (pe_repr hgd hr rfl G.repr (pa_cons (pe_lst (pa_cons (pv 3) (pa_cons (pv 4) (pa_cons (pv 5) (pa_cons (pe_tup (pa_cons (pv 3) (pa_cons (pv 4) pa_nil))) (pa_cons (u_tuple G (pa_cons (pv 2) pa_nil)) (pa_cons (u_len G (pa_cons (pv 2) pa_nil)) pa_nil))))))) pa_nil)) (nomark _)) (pss_one (ps_ret pe_bl)) pss_nil)
      (pss_cons (ps_set (i := 7) sc.nd rfl (Or.inl rfl) (pe_lst (pa_cons (u_str G (pa_cons (u_len G (pa_cons (pe_ix (kx_ix G) (pv 3) pe_int (fun _ _ => rfl)) pa_nil)) pa_nil)) (pa_cons pe_str (pa_cons (u_str G (pa_cons (u_sum G (pa_cons (pe_ix (kx_ix G) (pv 3) pe_int (fun _ _ => rfl)) pa_nil)) pa_nil)) (pa_cons pe_str (pa_cons (u_str G (pa_cons (u_len G (pa_cons (pv 4) pa_nil)) pa_nil)) (pa_cons pe_str pa_nil))))))))
      (pss_one (ps_ret (pe_cmpR (kx_eq G hu) (pe_strO m_str hr (by decide) rfl G.str (pa_cons (pv 0) pa_nil)) (pe_join pe_str (pe_op (kx_add G) (pv 7) (pe_lst (pa_cons (pe_op (kx_add G) (u_str G (pa_cons (pv 5) pa_nil)) pe_str) (pa_cons (u_str G (pa_cons (u_len G (pa_cons (pv 2) pa_nil)) pa_nil)) (pa_cons pe_str pa_nil)))))) (nomark _))))))))), ?_⟩
  obtain ⟨B, t, ls, lf, le, v, v2, wk, rd, bs, ss, eb, T, rfl, rv, rv2, good, hf, q⟩ := h
  have E0 : Env H B H (L2.start n_law_right [.ref t, v, v2]) (startT n_law_right t [.list [roadD wk rd bs, intsD ss], .list []]) := env_startT (dpa_two rv rv2)
  obtain ⟨o1, o2, o3, o4, o5⟩ := okTicks_le good.wr
  have hw : Small wk := ⟨by omega, by omega⟩
  have hrd : Small rd := ⟨by omega, by omega⟩
  have hb : ∀ b ∈ bs, Small b := fun b h => by have := good.b b h; exact ⟨by omega, by omega⟩
  have hs : ∀ b ∈ ss, Small b := fun b h => by have := good.s b h; exact ⟨by omega, by omega⟩
  have lb := good.lb
  have lss := good.ls
  have hsum : Small bs.sum := by
    have h1 : ∀ {l : List Int}, (∀ b ∈ l, 0 ≤ b ∧ b ≤ 12) → 0 ≤ l.sum ∧ l.sum ≤ 12 * l.length := fun {l} => by
      induction l with
      | nil => intro _; simp
      | cons a l ih =>
        intro h
        have i := ih fun b hb => h b (List.mem_cons_of_mem _ hb)
        have a' := h a List.mem_cons_self
        simp only [List.sum_cons, List.length_cons]
        omega
    have := h1 good.b
    exact ⟨this.1, by omega⟩
  have S := shw_found (w := wk) (r := rd) (f := finishOf wk rd bs ss) (bs := bs) (ss := ss) hw hrd hf hb hs (by omega) (by omega)
  refine RunE.go (F := FT C t ls lf le _ _ _) (P := { rt := fun d => d = .bool true }) T (.rfl' eb) E0 (fun _ _ _ _ z => z.elim) (fun d v B' H' e g r => by subst e; rw [dp_bl r]; exact q B' H' g) (fun _ _ _ _ z => z.elim) (fun _ _ _ _ z => z.elim) ?_
  refine r_seq (r_asgT (js := [3, 4]) (e_var rfl) (g_lst (gs_cons g_name (gs_cons g_name gs_nil))) rfl) ?_
  refine r_seq (r_asg (e_c (R_law_finish.mk wk rd bs ss (by omega) (by omega) (by omega) (fun b h => (good.b b h).1)) (a_cons (e_var rfl) (a_cons (e_var rfl) a_nil))) rfl rfl) ?_
  have hn1 : (tfs ls lf le).lookup ("edits" : Str) = none := rfl
  refine r_seq (r_asg (m_lst (ds := [roadD wk rd bs, intsD ss, .int (finishOf wk rd bs ss), .tuple [roadD wk rd bs, intsD ss], .tuple [], .int 0]) (a_cons (e_prop (fun _ _ h => h) (e_var rfl) (R_road.mk _ _ _ _ _ rfl)) (a_cons (e_prop (fun _ _ h => h) (e_var rfl) (R_starts.mk _ _ _ _ _ rfl)) (a_cons (e_prop (fun _ _ h => h) (e_var rfl) (R_finish.mk _ _ _ _ rfl)) (a_cons (e_st0 (fun _ _ h => h) (e_var rfl) rfl) (a_cons (e_meth (ds := []) (fun _ _ h => h) hn1 (e_var rfl) a_nil (R_edits.mk _ _ _)) (a_cons (c_lenO (fun _ _ h => h) (by simp) (a_cons (e_var rfl) a_nil)) a_nil)))))) (by simp)).d rfl rfl) ?_
  refine r_guard (b := false) ((t_test (e_neS (i := (foundD wk rd (finishOf wk rd bs ss) bs ss).shown) (j := (foundD wk rd (finishOf wk rd bs ss) bs ss).shown) (c_repr (d := foundD wk rd (finishOf wk rd bs ss) bs ss) (a_cons (e_var rfl) a_nil) rfl (.inl ⟨_, rfl⟩) S.lay S.shw S.dic S.len S.dep) (c_repr (d := foundD wk rd (finishOf wk rd bs ss) bs ss) (a_cons (m_lst (ds := [roadD wk rd bs, intsD ss, .int (finishOf wk rd bs ss), .tuple [roadD wk rd bs, intsD ss], .tuple [], .int 0]) (a_cons (e_var rfl) (a_cons (e_var rfl) (a_cons (e_var rfl) (a_cons (e_tup (ds := [roadD wk rd bs, intsD ss]) (a_cons (e_var rfl) (a_cons (e_var rfl) a_nil)) (by simp)) (a_cons (c_tup (xs := []) (a_cons (e_var rfl) a_nil) (.inl rfl)) (a_cons (c_len (xs := []) (a_cons (e_var rfl) a_nil) (.inl rfl)) a_nil)))))) (by simp)).d a_nil) rfl (.inl ⟨_, rfl⟩) S.lay S.shw S.dic S.len S.dep))).is (by simp)) (fun h => nomatch h) fun _ => ?_
  have a1 := numS_len (small_nat (n := bs.length) (by omega))
  have a2 := numS_len (small_nat (n := ss.length) (by omega))
  have a3 := numS_len hsum
  have a4 := numS_len hf
  have a5 := numS_len (i0 : Small 0)
  refine r_seq (r_asg (m_lst (ds := [.str (numS (bs.length : Nat)), .str "stages,", .str (numS bs.sum), .str "bicycles,", .str (numS (ss.length : Nat)), .str "people, finish"]) (a_cons (c_str (i := (bs.length : Nat)) (a_cons ((c_len (xs := bs.map PyData.int) (a_cons (e_ix (xs := [.int wk, .int rd, intsD bs]) (i := 2) (e_var (i := 3) rfl) (.inr rfl) e_int rfl) a_nil) (.inr rfl)).is (by rw [List.length_map])) a_nil) (small_log (small_nat (by omega)))) (a_cons e_str (a_cons (c_str (i := bs.sum) (a_cons (c_sumU (a_cons (e_ix (xs := [.int wk, .int rd, intsD bs]) (i := 2) (e_var (i := 3) rfl) (.inr rfl) e_int rfl) a_nil) (.inr rfl)) a_nil) (small_log hsum)) (a_cons e_str (a_cons (c_str (i := (ss.length : Nat)) (a_cons ((c_len (xs := ss.map PyData.int) (a_cons (e_var (i := 4) rfl) a_nil) (.inr rfl)).is (by rw [List.length_map])) a_nil) (small_log (small_nat (by omega)))) (a_cons e_str a_nil)))))) (by simp)).d rfl rfl) ?_
  have eS : EvE (FT C t ls lf le [.tuple [roadD wk rd bs, intsD ss]] [.int (finishOf wk rd bs ss)] []) (tCB (rStrO C (spT C R_str)) (tCons (tVar 0) tNil)) [.v (.ref t), .d (.list [roadD wk rd bs, intsD ss]), .d (.list []), .d (roadD wk rd bs), .d (intsD ss), .d (.int (finishOf wk rd bs ss)), .d (foundD wk rd (finishOf wk rd bs ss) bs ss), .d (.list [.str (numS (bs.length : Nat)), .str "stages,", .str (numS bs.sum), .str "bicycles,", .str (numS (ss.length : Nat)), .str "people, finish"])] (.d (.str (Txt.join blank1 (wordsT bs ss (finishOf wk rd bs ss))))) :=
    (c_strO (fun _ _ h => h) (R_str.mk _ _ _ wk rd (finishOf wk rd bs ss) bs ss rfl rfl (by omega) (by omega) hsum hf (by simp)) (a_cons (e_var (i := 0) rfl) a_nil)).is (by rw [← tripStr_eq]; rfl)
  have eW : EvE (FT C t ls lf le [.tuple [roadD wk rd bs, intsD ss]] [.int (finishOf wk rd bs ss)] []) _ [.v (.ref t), .d (.list [roadD wk rd bs, intsD ss]), .d (.list []), .d (roadD wk rd bs), .d (intsD ss), .d (.int (finishOf wk rd bs ss)), .d (foundD wk rd (finishOf wk rd bs ss) bs ss), .d (.list [.str (numS (bs.length : Nat)), .str "stages,", .str (numS bs.sum), .str "bicycles,", .str (numS (ss.length : Nat)), .str "people, finish"])] _ :=
    (m_add (K := K) (xs := [.str (numS (bs.length : Nat)), .str "stages,", .str (numS bs.sum), .str "bicycles,", .str (numS (ss.length : Nat)), .str "people, finish"]) (ys := [.str (numS (finishOf wk rd bs ss) ++ ","), .str (numS 0), .str "edits"]) (e_var (i := 7) rfl) rfl (m_lst (ds := [.str (numS (finishOf wk rd bs ss) ++ ","), .str (numS 0), .str "edits"]) (a_cons (e_adds (K := K) (x := numS (finishOf wk rd bs ss)) (y := ",") (c_str (i := finishOf wk rd bs ss) (a_cons (e_var (i := 5) rfl) a_nil) (small_log hf)) e_str (by show _ + 1 ≤ sizeLine; exact Nat.le_trans (Nat.add_le_add_right a4 1) (by decide))) (a_cons (c_str (i := 0) (a_cons (c_len (K := K) (xs := []) (a_cons (e_var (i := 2) rfl) a_nil) (.inl rfl)) a_nil) (small_log i0)) (a_cons e_str a_nil))) (by simp)).d rfl (by show (9 : Nat) ≤ sizeLine; decide)).d
  refine r_ret ((e_eqS (i := Txt.join blank1 (wordsT bs ss (finishOf wk rd bs ss))) (j := Txt.join blank1 (wordsT bs ss (finishOf wk rd bs ss))) eS (e_join (x := blank1) (ys := wordsT bs ss (finishOf wk rd bs ss)) e_str eW rfl (join_fit (n := 100) ?_ (by decide) (by simp [wordsT]) (by decide)))).is (t := .d (.bool true)) ?_) rfl rfl
  · intro y hy
    simp only [wordsT, List.mem_append, List.mem_cons, List.not_mem_nil, or_false] at hy
    have e := app_len (numS (finishOf wk rd bs ss)) ","
    have c1 : ("," : Str).length = 1 := rfl
    rcases hy with (rfl | rfl | rfl | rfl | rfl | rfl) | rfl | rfl | rfl <;> first | omega | decide
  · simp
end
end K45
-- M3
set_option maxHeartbeats 1000000
/-! the law's texts are texts that both readers can read -/
namespace K45
open PySem PySem.Spec PyProof.Rows L2
def Asc (l : List Nat) : Prop := ∀ c ∈ l, c < 256
theorem Asc.app {a b : List Nat} (h : Asc a) (k : Asc b) : Asc (a ++ b) := fun c hc => (List.mem_append.mp hc).elim (h c) (k c)
theorem Asc.sub {a b : List Nat} (h : Asc b) (s : ∀ c ∈ a, c ∈ b) : Asc a := fun c hc => h c (s c hc)
theorem joinL_two (s p q : List Nat) (r : List (List Nat)) : TL.joinL s (p :: q :: r) = p ++ (s ++ TL.joinL s (q :: r)) := by first | rfl | simp [TL.joinL]
theorem joinL_rn {c n : Nat} (hc : isDig c = false) : ∀ {l : List (List Nat)}, (∀ p ∈ l, Rn n p) → Rn n (TL.joinL [c] l)
  | [], _ => Rn.short (Nat.zero_le _)
  | [p], h => h p List.mem_cons_self
  | p :: q :: r, h => by
    rw [joinL_two]
    have := Rn.sep (h p List.mem_cons_self) (joinL_rn hc (l := q :: r) fun x hx => h x (List.mem_cons_of_mem _ hx)) hc
    rw [Nat.max_self] at this
    exact this
theorem joinL_asc {s : List Nat} (hs : Asc s) : ∀ {l : List (List Nat)}, (∀ p ∈ l, Asc p) → Asc (TL.joinL s l)
  | [], _ => fun c hc => by cases hc
  | [p], h => h p List.mem_cons_self
  | p :: q :: r, h => by
    rw [joinL_two]
    exact (h p List.mem_cons_self).app (hs.app (joinL_asc hs (l := q :: r) fun x hx => h x (List.mem_cons_of_mem _ hx)))
theorem numS_rn {n : Int} (h : Small n) : Rn 10 (tl (numS n)) := Rn.short (by rw [← len_tl]; exact numS_len h)
theorem tl_of (s : String) : tl (Str.ofString s) = s.toList.map Char.toNat := signs_ofString s
theorem numS_asc (n : Int) : Asc (tl (numS n)) := fun c hc => by
  unfold numS at hc
  rw [tl_of] at hc
  obtain ⟨ch, h1, rfl⟩ := List.mem_map.mp hc
  rcases int_sign n ch h1 with h | h
  · have := (digit_range h).2
    omega
  · subst h; decide
/-- what both readers can read, with room for a change -/
structure Tx0 (x : Str) : Prop where
  len : x.length ≤ 5000
  run : Rn 10 (tl x)
  asc : Asc (tl x)
theorem Tx0.tx {x : Str} (h : Tx0 x) : Tx x := ⟨by have := h.len; omega, h.run.mono (by omega), h.asc⟩
theorem text_tx {w r : Int} {bs ss : List Int} (hw : Small w) (hr : Small r) (hb : ∀ b ∈ bs, Small b) (hs : ∀ b ∈ ss, Small b) (lb : bs.length ≤ 24) (ls : ss.length ≤ 110) : Tx0 (textOf w r bs ss) := by
  have nb : ∀ {l : List Int}, (∀ b ∈ l, Small b) → ∀ y ∈ l.map numS, y.length ≤ 10 := fun {l} h y hy => by
    obtain ⟨b, hb, rfl⟩ := List.mem_map.mp hy
    exact numS_len (h b hb)
  have nr : ∀ {l : List Int}, (∀ b ∈ l, Small b) → ∀ p ∈ (l.map numS).map tl, Rn 10 p := fun {l} h p hp => by
    obtain ⟨y, hy, rfl⟩ := List.mem_map.mp hp
    obtain ⟨b, hb, rfl⟩ := List.mem_map.mp hy
    exact numS_rn (h b hb)
  have na : ∀ (l : List Int), ∀ p ∈ (l.map numS).map tl, Asc p := fun l p hp => by
    obtain ⟨y, hy, rfl⟩ := List.mem_map.mp hp
    obtain ⟨b, hb, rfl⟩ := List.mem_map.mp hy
    exact numS_asc b
  have lw := numS_len hw
  have lr := numS_len hr
  have lc : tl comma = [44] := rfl
  have l2 : tl blank1 = [32] := rfl
  have l3 : tl slash = [47] := rfl
  have l4 : tl fromS = [102, 114, 111, 109] := rfl
  have t1 : tl (numS w ++ slash ++ numS r) = tl (numS w) ++ 47 :: tl (numS r) := by rw [tl_app, tl_app, l3, List.append_assoc]; rfl
  have jb := join_len (s := comma) (nb hb)
  have js := join_len (s := comma) (nb hs)
  rw [List.length_map] at jb js
  have e1 : bs.length * (10 + comma.length) ≤ 24 * 11 := Nat.mul_le_mul lb (by decide)
  have e2 : ss.length * (10 + comma.length) ≤ 110 * 11 := Nat.mul_le_mul ls (by decide)
  have r1 : Rn 10 (tl (numS w ++ slash ++ numS r)) := by
    rw [t1]
    have := Rn.sep (numS_rn hw) (numS_rn hr) (c := 47) (by decide)
    rwa [Nat.max_self] at this
  have r2 : ∀ {l : List Int}, (∀ b ∈ l, Small b) → Rn 10 (tl (Txt.join comma (l.map numS))) := fun {l} h => by rw [join_tl, lc]; exact joinL_rn (by decide) (nr h)
  have r4 : Rn 10 (tl fromS) := Rn.short (by rw [l4]; decide)
  have a1 : Asc (tl (numS w ++ slash ++ numS r)) := by
    rw [t1]
    refine (numS_asc w).app fun c hc => ?_
    rcases List.mem_cons.mp hc with h | h
    · omega
    · exact numS_asc r c h
  have a2 : ∀ l : List Int, Asc (tl (Txt.join comma (l.map numS))) := fun l => by rw [join_tl, lc]; exact joinL_asc (fun c hc => by simp at hc; omega) (na l)
  have a4 : Asc (tl fromS) := by rw [l4]; intro c hc; simp at hc; omega
  refine ⟨?_, ?_, ?_⟩
  · have := join_len (s := blank1) (ys := wordsOf w r bs ss) (n := 1210) fun y hy => by
      simp only [wordsOf, List.mem_cons, List.not_mem_nil, or_false] at hy
      rcases hy with rfl | rfl | rfl | rfl
      · rw [len_tl, t1, List.length_append, List.length_cons, ← len_tl, ← len_tl]; omega
      · omega
      · decide
      · omega
    have e : (wordsOf w r bs ss).length * (1210 + blank1.length) = 4 * 1211 := rfl
    unfold textOf
    omega
  · unfold textOf
    rw [join_tl, l2]
    refine joinL_rn (by decide) fun p hp => ?_
    obtain ⟨y, hy, rfl⟩ := List.mem_map.mp hp
    simp only [wordsOf, List.mem_cons, List.not_mem_nil, or_false] at hy
    rcases hy with rfl | rfl | rfl | rfl
    · exact r1
    · exact r2 hb
    · exact r4
    · exact r2 hs
  · unfold textOf
    rw [join_tl, l2]
    refine joinL_asc (fun c hc => by simp at hc; omega) fun p hp => ?_
    obtain ⟨y, hy, rfl⟩ := List.mem_map.mp hp
    simp only [wordsOf, List.mem_cons, List.not_mem_nil, or_false] at hy
    rcases hy with rfl | rfl | rfl | rfl
    · exact a1
    · exact a2 bs
    · exact a4
    · exact a2 ss
theorem slice_to' (x : Str) {i : Int} (h : 0 ≤ i) : tl (Txt.slice x none (some i)) = (tl x).take i.toNat := by
  have := SX.slice_to (a := tl x) h
  rw [SX.S_tl] at this
  rw [this]
theorem slice_from' (x : Str) {i : Int} (h : 0 ≤ i) : tl (Txt.slice x (some i) none) = (tl x).drop i.toNat := by
  have := SX.slice_from (a := tl x) h
  rw [SX.S_tl] at this
  rw [this]
/-- one mark set into such a text -/
theorem mark_tx {x m : Str} (h : Tx0 x) (hm : m.length ≤ 8) (ha : Asc (tl m)) {i j : Int} (hi : 0 ≤ i) (hj : i ≤ j) : Tx (Txt.slice x none (some i) ++ m ++ Txt.slice x (some j) none) := by
  have e : tl (Txt.slice x none (some i) ++ m ++ Txt.slice x (some j) none) = (tl x).take i.toNat ++ tl m ++ (tl x).drop j.toNat := by
    rw [tl_app, tl_app, slice_to' x hi, slice_from' x (by omega)]
  have hl := h.len
  rw [len_tl] at hl hm
  refine ⟨?_, ?_, ?_⟩
  · rw [len_tl, e, List.length_append, List.length_append, List.length_take, List.length_drop]
    omega
  · rw [e]
    have r1 : Rn 10 ((tl x).take i.toNat) := h.run.sub (List.take_prefix _ _).isInfix
    have r3 : Rn 10 ((tl x).drop j.toNat) := h.run.sub (List.drop_suffix _ _).isInfix
    exact ((r1.app (Rn.short hm)).app r3).mono (by omega)
  · rw [e]
    exact ((h.asc.sub fun c hc => List.mem_of_mem_take hc).app ha).app (h.asc.sub fun c hc => List.mem_of_mem_drop hc)
end K45
-- BP
set_option maxHeartbeats 800000
namespace K45
open PySem PySem.Spec PyProof.Rows L2
open Evl (Ex ex_rd ex_l ex_t)
/-! ### more of what draws -/
section
variable {K : PySem.W.Frag} {D Cl : Addr} {L : List Sl} {N N1 N2 N3 : Int} {s s1 s2 s3 : PyData → Prop} {ta tb tc te : TE}
theorem i_tup3 (hf : Flat L) (ha : EvI D Cl ta L N N1 s1) (hb : EvI D Cl tb L N1 N2 s2) (hc : EvI D Cl tc L N2 N3 s3) : EvI D Cl (tTup (tCons ta (tCons tb (tCons tc tNil)))) L N N3 (fun l => ∃ x y z, l = .tuple [x, y, z] ∧ s1 x ∧ s2 y ∧ s3 z) := by
  intro B H σ eb E k Q q
  refine ha B H σ eb E k _ fun v x B1 H1 m1 k1 hx rx => hb B1 H1 σ m1.bh (E.flatB hf m1.bb) k1 _ fun w y B2 H2 m2 k2 hy ry => hc B2 H2 σ m2.bh (E.flatB hf (m1.bb.trans m2.bb)) k2 _ fun u z B3 H3 m3 k3 hz rz => ?_
  refine ⟨(by decide : (3 : Nat) ≤ sizeLine), fun p hp => ?_⟩
  have g : Grow B3 H3 (upd B3 p (.tup [v, w, u])) (upd H3 p (.tup [v, w, u])) := Grow.put m3.bh hp
  exact q _ _ _ _ (((m1.trans m2).trans m3).trans g.toM) (k3.grow g) ⟨x, y, z, rfl, hx, hy, hz⟩ (.tup upd_same (.cons (dp_mono ((m2.bb.trans m3.bb).trans g.bb) rx) (.cons (dp_mono (m3.bb.trans g.bb) ry) (.cons (dp_mono g.bb rz) .nil))))
theorem i_lst2 (hf : Flat L) (ha : EvI D Cl ta L N N1 s1) (hb : EvI D Cl tb L N1 N2 s2) : EvI D Cl (tLst (tCons ta (tCons tb tNil))) L N N2 (fun l => ∃ x y, l = .list [x, y] ∧ s1 x ∧ s2 y) := by
  intro B H σ eb E k Q q
  refine ha B H σ eb E k _ fun v x B1 H1 m1 k1 hx rx => hb B1 H1 σ m1.bh (E.flatB hf m1.bb) k1 _ fun w y B2 H2 m2 k2 hy ry => ?_
  refine ⟨(by decide : (2 : Nat) ≤ sizeLine), fun p hp => ?_⟩
  have g : Grow B2 H2 (upd B2 p (.lst [v, w])) (upd H2 p (.lst [v, w])) := Grow.put m2.bh hp
  exact q _ _ _ _ ((m1.trans m2).trans g.toM) (k2.grow g) ⟨x, y, rfl, hx, hy⟩ (.lst upd_same (.cons (dp_mono (m2.bb.trans g.bb) rx) (.cons (dp_mono g.bb ry) .nil)))
theorem i_cal2 {R : List PyData → PyData → Prop} {E' : XK} (hf : Flat L) (ha : EvI D Cl ta L N N1 s1) (hb : EvI D Cl tb L N1 N2 s2) (hr : ∀ x y, s1 x → s2 y → ∃ z, s3 z ∧ R [x, y] z) : EvI D Cl (tCall (spR R) [] E' (tCons ta (tCons tb tNil))) L N N2 s3 := by
  intro B H σ eb E k Q q
  refine ha B H σ eb E k _ fun v x B1 H1 m1 k1 hx rx => hb B1 H1 σ m1.bh (E.flatB hf m1.bb) k1 _ fun w y B2 H2 m2 k2 hy ry => ?_
  obtain ⟨z, hz, h⟩ := hr x y hx hy
  exact ⟨B2, [x, y], z, m2.bh, .cons (dp_mono m2.bb rx) (.cons ry .nil), h, fun u B3 H3 g r => q u z B3 H3 ((m1.trans m2).trans g.toM) (k2.grow g) hz r⟩
/-- x[e:] -/
theorem i_from {x : Str} {lo hi : Int} (hf : Flat L) (hx : x.length ≤ 100000) (ha : EvE Tr0 ta L (.d (.str x))) (hb : EvI D Cl tb L N N1 (In lo hi)) : EvI D Cl (tSl (rSlU K) ta (tPart tb) tNoPart) L N N1 (fun y => ∃ i : Int, lo ≤ i ∧ i ≤ hi ∧ y = .str (Txt.slice x (some i) none)) := by
  intro B H σ eb E k Q q
  refine ha H B B H σ trivial (.rfl' eb) E _ fun v B1 H1 g1 o1 => hb B1 H1 σ g1.bh ((E.mono g1).flatB hf (Ex.refl _)) (k.grow g1) _ fun w y B2 H2 m2 k2 hy ry => ?_
  obtain ⟨i, rfl, i0, i1⟩ := hy
  exact ⟨i, dp_int ry, .inl ⟨x, dp_str o1, Nat.le_trans hx (by decide), q _ _ B2 H2 (g1.toM.trans m2) k2 ⟨i, i0, i1, rfl⟩ (.str _)⟩⟩
end
theorem Dk.growM {D Cl : Addr} {N : Int} {M : Addr → Prop} {B H B' H' : Hp} (k : Dk D Cl N B H) (m : GrowM M B H B' H') (n1 : ¬ M D) (n2 : ¬ M Cl) : Dk D Cl N B' H' := by
  obtain ⟨n, cs, h1, h2, h3⟩ := k.ex
  exact ⟨k.ne, m.nw _ _ h1 k.bD, m.nw _ _ h2 k.bC, n, cs, m.kk _ _ n1 h1, m.kk _ _ n2 h2, h3⟩
theorem cps_ifS {c : TT} {t u : TS} {Dn : Ends} {σ : St} {H : Hp} (h : c σ H fun b H1 => if b = true then t Dn σ H1 else u Dn σ H1) : tIfS c t u Dn σ H := h
theorem e_vint {F : Fx} {L : List Sl} {te : TE} {i : Int} (h : EvE F te L (.v (.int i))) : EvE F te L (.d (.int i)) := fun H0 B0 B H σ f g E Q q =>
  h H0 B0 B H σ f g E Q fun v B1 H1 g1 o1 => q v B1 H1 g1 (by rw [show v = .int i from o1]; exact .int i)
theorem e_dict {F : Fx} {L : List Sl} : EvE F tDNewK L (.d (.dict [])) := fun H0 B0 B H σ f g E Q q p hp =>
  q _ _ _ (Grow.put g.bh hp) (Rp.dic upd_same)
/-- _law_right(t, state, []) -/
theorem e_right {F : Fx} {L : List Sl} {tr : TA} {E : XK} {C t ls lf le : Addr} {w r : Int} {bs ss : List Int} (hF : ∀ H0 B0, F H0 B0 → TripS C B0 H0 t ls lf le [.tuple [roadD w r bs, intsD ss]] [.int (finishOf w r bs ss)] []) (good : Good w r bs ss) (hf : Small (finishOf w r bs ss)) (ha : EvA F tr L [.v (.ref t), .d (.list [roadD w r bs, intsD ss]), .d (.list [])]) : EvE F (tCall (spRight C) [] E tr) L (.d (.bool true)) := fun H0 B0 B H σ f g E0 Q q =>
  ha H0 B0 B H σ f g E0 _ fun vs B1 H1 g1 o1 => by
    cases o1 with
    | @cons v _ vs' _ p1 o1 =>
      obtain ⟨v1, v2, rfl, p2, p3⟩ := ok2 o1
      obtain rfl : v = .ref t := p1
      exact ⟨B1, t, ls, lf, le, v1, v2, w, r, bs, ss, g1.bh, (hF H0 B0 f).mono (g.trans g1), rfl, p2, p3, good, hf, fun B2 H2 g2 => q _ B2 H2 (g1.trans g2) (.bl _)⟩
/-- what the law lets read -/
def Item (d : PyData) : Prop := (tyN d ≠ "str" ∧ kitB (tyN d) "str" = some false) ∨ ∃ x, d = .str x ∧ Tx x
inductive Less : List Sl → List Sl → Prop
  | nil : Less [] []
  | k {s : Sl} {l m : List Sl} (h : Less l m) : Less (s :: l) (s :: m)
  | d {s : Sl} {l m : List Sl} (h : Less l m) : Less (.u :: l) (s :: m)
theorem Less.at_ : ∀ {l m : List Sl}, Less l m → l.length = m.length ∧ ∀ (i : Nat) (s : Sl), l[i]? = some s → s = .u ∨ m[i]? = some s
  | _, _, .nil => ⟨rfl, fun i s e => by simp at e⟩
  | _, _, .k h => ⟨by rw [List.length_cons, List.length_cons, (Less.at_ h).1], fun i s e => by
    cases i with
    | zero => exact .inr e
    | succ i => simpa using (Less.at_ h).2 i s (by simpa using e)⟩
  | _, _, .d h => ⟨by rw [List.length_cons, List.length_cons, (Less.at_ h).1], fun i s e => by
    cases i with
    | zero => exact .inl (by simpa using e.symm)
    | succ i => simpa using (Less.at_ h).2 i s (by simpa using e)⟩
/-- less is told of the slots -/
theorem Env.less {H0 B H : Hp} {σ : St} {L L' : List Sl} (E : Env H0 B H σ L) (h : Less L' L) : Env H0 B H σ L' := by
  obtain ⟨hl, ha⟩ := h.at_
  have no : ∀ {s : Sl}, isM s = true → s ≠ .u := fun m z => by subst z; cases m
  refine ⟨E.len.trans hl.symm, fun i s e => ?_, fun i j s t l hij e1 m1 e2 m2 a1 a2 => ?_⟩
  · rcases ha i s e with z | z
    · exact .inl z
    · exact E.at_ i s z
  · rcases ha i s e1 with z | z
    · exact absurd z (no m1)
    · rcases ha j t e2 with z2 | z2
      · exact absurd z2 (no m2)
      · exact E.sep i j s t l hij z m1 z2 m2 a1 a2
/-- ints in a tuple, so many, so great -/
def TupI (n : Nat) (m : Int) (x : PyData) : Prop := ∃ l : List Int, x = intsD l ∧ l.length ≤ n ∧ ∀ b ∈ l, 0 ≤ b ∧ b ≤ m
theorem i_more {K : PySem.W.Frag} {D Cl : Addr} {L : List Sl} {N : Int} {ta tX : TE} {E' : XK} {l0 lX : List Int} {n : Nat} {m : Int} (hf : Flat L) (hd : L[1]? = some (.v (.ref D))) (h0 : EvE Tr0 ta L (.d (intsD l0))) (hX : EvE Tr0 tX L (.d (intsD lX))) (b0 : ∀ b ∈ l0, 0 ≤ b ∧ b ≤ m) (bX : ∀ b ∈ lX, 0 ≤ b ∧ b ≤ m) (hn : l0.length + lX.length ≤ n) (hz : n ≤ 1000) (hN : N ≤ 900000) :
    EvI D Cl (tOp (rAddU K) ta (tOp (rIx K) (tLst (tCons (tTup tNil) (tCons (tTup tNil) (tCons tX tNil)))) (tCall spDw [] E' (tCons (tVar 1) (tCons (tC (.int 3)) tNil))))) L N (N + 1) (TupI n m) := by
  refine i_op (s1 := fun x => x = intsD l0) (s2 := fun x => x = intsD [] ∨ x = intsD lX) (N1 := N) hf (i_pure h0 rfl) (i_op (s1 := fun x => x = .list [.tuple [], .tuple [], intsD lX]) (s2 := In 0 2) (N1 := N) hf (i_pure (m_lst (ds := [.tuple [], .tuple [], intsD lX]) (a_cons (e_tup (ds := []) a_nil (by simp)) (a_cons (e_tup (ds := []) a_nil (by simp)) (a_cons hX a_nil))) (by simp)).d rfl) (i_drw 3 2 rfl hd (i_pure e_int ⟨3, rfl, by omega, by omega⟩) (by omega) (by omega)) fun x y hx hy => ?_) fun x y hx hy => ?_
  · subst hx
    obtain ⟨i, rfl, i0, i1⟩ := hy
    rcases (show i = 0 ∨ i = 1 ∨ i = 2 by omega) with rfl | rfl | rfl
    · exact ⟨_, .inl rfl, e_ix (xs := [.tuple [], .tuple [], intsD lX]) (e_var rfl) (.inl rfl) (e_var rfl) rfl⟩
    · exact ⟨_, .inl rfl, e_ix (xs := [.tuple [], .tuple [], intsD lX]) (e_var rfl) (.inl rfl) (e_var rfl) rfl⟩
    · exact ⟨_, .inr rfl, e_ix (xs := [.tuple [], .tuple [], intsD lX]) (e_var rfl) (.inl rfl) (e_var rfl) rfl⟩
  · subst hx
    rcases hy with rfl | rfl
    · refine ⟨intsD (l0 ++ []), ⟨l0 ++ [], rfl, by simp; omega, fun b hb => b0 b (by simpa using hb)⟩, (e_addt (xs := l0.map PyData.int) (ys := []) (e_var rfl) (e_var rfl) (by simp; exact Nat.le_trans (by omega : _ ≤ 1000) (by decide))).is (by simp)⟩
    · refine ⟨intsD (l0 ++ lX), ⟨l0 ++ lX, rfl, by simp; omega, fun b hb => (List.mem_append.mp hb).elim (b0 b) (bX b)⟩, (e_addt (xs := l0.map PyData.int) (ys := lX.map PyData.int) (e_var rfl) (e_var rfl) (by simp; exact Nat.le_trans (by omega : _ ≤ 1000) (by decide))).is (by simp)⟩
theorem flat_rep (k : Nat) (l : List Int) : (List.replicate k (l.map PyData.int)).flatten = ((List.replicate k l).flatten).map PyData.int := by
  induction k with
  | zero => rfl
  | succ k ih => rw [List.replicate_succ, List.replicate_succ, List.flatten_cons, List.flatten_cons, ih, List.map_append]
theorem len_rep (k : Nat) (l : List Int) : ((List.replicate k l).flatten).length = k * l.length := by
  induction k with
  | zero => simp
  | succ k ih => rw [List.replicate_succ, List.flatten_cons, List.length_append, ih, Nat.succ_mul]; omega
theorem cps_seqPar {i j : Nat} {ta : TA} {ty : TS} {Dn : Ends} {σ : St} {H : Hp} (h : ta σ H fun vs H1 => ∃ v w, vs = [v, w] ∧ ty Dn ((σ.set i (some v)).set j (some w)) H1) : tSeq (tPar i j ta) ty Dn σ H := h
/-- the slots of law, the deck alone known -/
def lawL (D : Addr) : List Sl := [.u, .v (.ref D), .u, .u, .u, .u, .u, .u, .u, .u, .u, .u, .u, .u]
theorem lawL_of {D : Addr} {H0 B H : Hp} {σ : St} (hl : σ.length = 14) (h1 : σ[1]? = some (some (.ref D))) : Env H0 B H σ (lawL D) := by
  have at_ : ∀ (i : Nat) (s : Sl), (lawL D)[i]? = some s → s = .u ∨ (i = 1 ∧ s = .v (.ref D)) := fun i s e => by
    match i, e with
    | 0, e => cases e; exact .inl rfl
    | 1, e => cases e; exact .inr ⟨rfl, rfl⟩
    | 2, e => cases e; exact .inl rfl
    | 3, e => cases e; exact .inl rfl
    | 4, e => cases e; exact .inl rfl
    | 5, e => cases e; exact .inl rfl
    | 6, e => cases e; exact .inl rfl
    | 7, e => cases e; exact .inl rfl
    | 8, e => cases e; exact .inl rfl
    | 9, e => cases e; exact .inl rfl
    | 10, e => cases e; exact .inl rfl
    | 11, e => cases e; exact .inl rfl
    | 12, e => cases e; exact .inl rfl
    | 13, e => cases e; exact .inl rfl
    | n + 14, e => cases e
  refine ⟨hl, fun i s e => ?_, fun i j s t l _ e1 m1 => ?_⟩
  · rcases at_ i s e with h | ⟨rfl, rfl⟩
    · exact .inl h
    · exact .inr ⟨_, h1, rfl⟩
  · rcases at_ i s e1 with h | ⟨rfl, rfl⟩
    · subst h; cases m1
    · cases m1
theorem Env.at1 {D : Addr} {H0 B H : Hp} {σ : St} {L : List Sl} (E : Env H0 B H σ L) (hl : L.length = 14) (h : L[1]? = some (.v (.ref D))) {H0' B' H' : Hp} : Env H0' B' H' σ (lawL D) :=
  lawL_of (E.len.trans hl) (by
    rcases E.at_ 1 _ h with z | ⟨v, hv, o⟩
    · cases z
    · rw [hv, show v = .ref D from o])
theorem cps_seqFor {wi : TI} {g : TG} {tb ty : TS} {Dn : Ends} {σ : St} {H : Hp} (h : tFor wi g tb { Dn with nx := ty Dn } σ H) : tSeq (tFor wi g tb) ty Dn σ H := h
theorem finish_small {w r : Int} {bs ss : List Int} (g : Good w r bs ss) : Small (finishOf w r bs ss) := by
  obtain ⟨o1, o2, o3, o4, o5⟩ := okTicks_le g.wr
  have hl := g.ls
  have hm : finishOf w r bs ss ∈ ticksAt w r bs ss bs.length := maxL_mem (by rw [ticksAt_len]; omega)
  have h0 := ticksAt_pos (w := w) (r := r) (bs := bs) (by omega) (by omega) (fun t h => (g.s t h).1) bs.length _ hm
  have h1 := ticksAt_le (w := w) (r := r) (m := 1000000) (bs := bs) o1 o2 (fun t h => (g.s t h).2) bs.length _ hm
  have lb := g.lb
  exact ⟨h0, by omega⟩
def lawX (D : Addr) (d : PyData) : List Sl := [.u, .v (.ref D), .u, .u, .u, .u, .d d, .u, .u, .u, .u, .u, .u, .u]
def lawT (D : Addr) (d : PyData) : List Sl := [.u, .v (.ref D), .u, .u, .u, .u, .u, .u, .u, .u, .u, .d d, .u, .u]
theorem cps_testEq {K : PySem.W.Frag} {ta tb : TE} {σ : St} {H : Hp} {Q : Bool → Hp → Prop} (h : ta σ H fun x H1 => tb σ H1 fun y H2 => rEqU K x y H2 fun z H3 => ∃ k, z = .bl k ∧ Q k H3) : tTest (tOp (rEqU K) ta tb) σ H Q := h
theorem cps_asgI1 {D Cl : Addr} {L : List Sl} {N N1 : Int} {s : PyData → Prop} {te : TE} {i : Nat} {B H : Hp} {σ : St} {Dn : Ends} (h : EvI D Cl te L N N1 s) (hf : Flat L) (eb : Ex B H) (E : Env H B H σ L) (k : Dk D Cl N B H)
    (q : ∀ x B' H' σ', GrowM (MD D Cl) B H B' H' → Dk D Cl N1 B' H' → s x → Env H' B' H' σ' (L.set i (.d x)) → Dn.nx σ' H') : tAsg te (gName i) Dn σ H :=
  h B H σ eb E k _ fun v x B1 H1 m1 k1 hx rx => q x B1 H1 _ m1 k1 hx ((E.flatB hf m1.bb).set (s := .d x) rx rfl)
/-- for t in [..]: what the law does with each -/
theorem cps_forI {K : PySem.W.Frag} {D Cl : Addr} {L : List Sl} {N N1 : Int} {s : PyData → Prop} {te : TE} {tb : TS} {B H : Hp} {σ : St} {Dn : Ends} (h : EvI D Cl te L N N1 s) (hf : Flat L) (eb : Ex B H) (E : Env H B H σ L) (k : Dk D Cl N B H) (hL : L.length = 14) (h1 : L[1]? = some (.v (.ref D)))
    (hs : ∀ l, s l → ∃ ds, l = .list ds ∧ ∀ d ∈ ds, Item d)
    (turn : ∀ (d : PyData) (σ' : St) (B' H' : Hp) (Dn' : Ends), Item d → Ex B' H' → Dk D Cl N1 B' H' → Env H' B' H' σ' (lawT D d) → (∀ σ2 H2 B2, Ex B' B2 → Ex B2 H2 → Dk D Cl N1 B2 H2 → Env H2 B2 H2 σ2 (lawL D) → Dn'.nx σ2 H2) → tb Dn' σ' H')
    (done : ∀ σ' H' B', Ex B' H' → Dk D Cl N1 B' H' → Env H' B' H' σ' (lawL D) → Dn.nx σ' H') : tFor (iList K te) (gName 11) tb Dn σ H :=
  h B H σ eb E k _ fun v l B1 H1 m1 k1 hl rl => by
    obtain ⟨ds, rfl, hds⟩ := hs l hl
    obtain ⟨a, vs, rfl, ea, ra⟩ := dp_lst rl
    obtain ⟨G, Y, w, hG, hY⟩ := walkD_list (K := K) ea ra
    refine ⟨a, rfl, ⟨vs, SqL.of (m1.bh _ _ ea)⟩, for_it w (fun _ σ' H' => ∃ B', Ex B1 B' ∧ Ex B' H' ∧ Dk D Cl N1 B' H' ∧ Env H' B' H' σ' (lawL D)) ⟨B1, Ex.refl _, m1.bh, k1, (E.flatB (H0' := H1) (H' := H1) hf m1.bb).at1 hL h1⟩ (fun i σ' H' _ ⟨B', e1, e2, _⟩ => hG B' H' e1 e2) ?_ ?_⟩
    · rintro i x σ' H' H2 hlt ⟨B', e1, e2, k', E'⟩ y
      obtain ⟨B2, d, g2, hd, rx⟩ := hY i H' x H2 B' e1 e2 hlt y
      have E2 : Env H2 B2 H2 (σ'.set 11 (some x)) (lawT D d) := ((E'.flatB (H0' := H2) (H' := H2) rfl g2.bb).set (i := 11) (s := .d d) rx rfl)
      exact turn d _ B2 H2 _ (hds d (List.mem_of_getElem? hd)) g2.bh (k'.grow g2) E2 fun σ3 H3 B3 f1 f2 f3 f4 => ⟨B3, (e1.trans g2.bb).trans f1, f2, f3, f4⟩
    · rintro σ' H' ⟨B', e1, e2, k', E'⟩
      exact done σ' H' B' e2 k' E'
/-- the word at fault is one of four, or there is none -/
theorem dueN_le {ws : List Str} {n : Nat} (h : dueN ws = some n) : n ≤ 4 := by
  unfold dueN at h
  cases e : badAt ws with
  | none =>
    rw [e] at h
    by_cases hl : ws.length < 4
    · rw [show (if ws.length < 4 then some ws.length else none) = some ws.length from if_pos hl] at h
      cases h; omega
    · rw [show (if ws.length < 4 then some ws.length else none) = none from if_neg hl] at h
      cases h
  | some i =>
    rw [e] at h
    cases h
    unfold badAt at e
    rw [List.find?_range_eq_some] at e
    obtain ⟨_, _, h3⟩ := e
    by_cases h4 : n ≤ 4
    · exact h4
    · have := h3 4 (by omega)
      rw [part4 _ (Nat.le_refl 4)] at this
      cases this
theorem shaped_road (w r : Int) (bs : List Int) : SeqAt.shaped (roadD w r bs) = true := by
  unfold SeqAt.shaped
  rw [show (roadD w r bs).canLay0 = true by simp [PyData.canLay0, PyData.canLayAll0, canInts], Bool.true_and]
  refine decide_eq_true ?_
  have d1 := depth_all (n := 0) (l := bs.map PyData.int) fun d hd => by obtain ⟨i, _, rfl⟩ := List.mem_map.mp hd; exact Nat.le_refl 0
  simp only [PyData.depth, PyData.depthAll]
  omega
def law2 (D : Addr) (n : PyData) : List Sl := [.u, .v (.ref D), .u, .u, .u, .u, .u, .u, .u, .u, .u, .u, .d (.list [.str "text", n]), .d (.list [.str "text", n])]
def law3 (D : Addr) (w r : Int) (bs ss : List Int) (t : Addr) : List Sl := [.u, .v (.ref D), .u, .u, .u, .u, .u, .u, .u, .u, .u, .u, .d (.list [roadD w r bs, intsD ss]), .v (.ref t)]
theorem cps_tnB {te : TE} {σ : St} {H : Hp} {Q : Bool → Hp → Prop} (h : te σ H fun x H1 => ∃ b, x = .bl b ∧ Q (!b) H1) : tNot (tB te) σ H Q := h
def someL : List PyData := [.str "0", .str "7", .str " ", .str ",", .str "/", .str ":", .str "13", .str "-", .str "+", .str "_", .str "x", .str "", .str "  ", .str "
", .str " from "]
theorem some_ok : ∀ d ∈ someL, ∃ m, d = .str m ∧ m.length ≤ 8 ∧ Asc (tl m) := by
  have key : ∀ m : Str, m.length ≤ 8 → (tl m).all (fun c => decide (c < 256)) = true → ∃ m', PyData.str m = .str m' ∧ m'.length ≤ 8 ∧ Asc (tl m') := fun m h1 h2 => ⟨m, rfl, h1, fun c hc => by simpa using List.all_eq_true.mp h2 c hc⟩
  intro d hd
  simp only [someL, List.mem_cons, List.not_mem_nil, or_false] at hd
  rcases hd with rfl | rfl | rfl | rfl | rfl | rfl | rfl | rfl | rfl | rfl | rfl | rfl | rfl | rfl | rfl <;> exact key _ (by decide) (by decide)
def odd1 : List PyData := [.none, .int 5, .bool true, .tuple [], .list [], .dict [], .str "", .str "10/4", .str "10/4 1", .str "10/4 1 from", .str "10/4 1 from 0", .str "4/10 1 from 0"]
def odd2 : List PyData := [.str "10/10 1 from 0", .str "10/4 from 0", .str "10/4 1 from 0 ", .str "10/4 13 from 0", .str "10/0 1 from 0"]
theorem odd_ok : ∀ d ∈ odd1 ++ odd2, Item d := by
  have key : ∀ m : Str, m.length ≤ 20 → (tl m).all (fun c => decide (c < 256)) = true → Item (.str m) := fun m h1 h2 => .inr ⟨m, rfl, by omega, Rn.short (by rw [← len_tl]; omega), fun c hc => by simpa using List.all_eq_true.mp h2 c hc⟩
  intro d hd
  simp only [odd1, odd2, List.cons_append, List.nil_append, List.mem_cons, List.not_mem_nil, or_false] at hd
  rcases hd with rfl | rfl | rfl | rfl | rfl | rfl | rfl | rfl | rfl | rfl | rfl | rfl | rfl | rfl | rfl | rfl | rfl
  · exact .inl ⟨by decide, by decide +kernel⟩
  · exact .inl ⟨by decide, by decide +kernel⟩
  · exact .inl ⟨by decide, by decide +kernel⟩
  · exact .inl ⟨by decide, by decide +kernel⟩
  · exact .inl ⟨by decide, by decide +kernel⟩
  · exact .inl ⟨by decide, by decide +kernel⟩
  all_goals exact key _ (by decide) (by decide)
/-- xs[i], i drawn: one of them -/
theorem ix_mem {K : PySem.W.Frag} {xs : List PyData} {i : Int} (h0 : 0 ≤ i) (h1 : i < xs.length) : ∃ z, z ∈ xs ∧ EvE Tr0 (tOp (rIx K) (tVar 0) (tVar 1)) [.d (.list xs), .d (.int i)] (.d z) := by
  obtain ⟨j, rfl⟩ : ∃ j : Nat, i = (j : Int) := ⟨i.toNat, by omega⟩
  have hj : j < xs.length := by omega
  exact ⟨xs[j], List.getElem_mem hj, e_ix (e_var rfl) (.inl rfl) (e_var rfl) (atI_nat (List.getElem?_eq_getElem hj))⟩
def spLaw (K : PySem.W.Frag) : Sp := fun vs H Q _ => ∃ a, ∃ ns : List Int, vs = [.ref a] ∧ SqL K H a (ns.map V.int) ∧ ns.length ≤ 100000 ∧ ∀ H', Q (.bl true) H'
section
variable {P : Program} {w : World} {K : PySem.W.Frag} {mg : Str → Option Value} {base : Heap} {C PT : Addr}
abbrev s_law : Stmt := top 87
abbrev n_law : List Str := ["_law_script", "_law_deck_here", "_law_turn", "_law_road_here", "_law_starts_here", "_law_longer", "_law_value", "_law_at", "_law_some", "_law_mark", "_law_odd", "_law_text_here", "_law_due_here", "_law_found"]
theorem sc_law : FnScope n_law ["_law_script"] (defScope s_law) := ⟨rfl, rfl, rfl, by decide +kernel, rfl, by decide +kernel, by decide +kernel⟩
theorem f_law (G : Gs K mg) (tc : TripC K C) (ti : TripI K mg C) (gP : mg "PromisedTrip" = some (.ref PT)) (kP : PySem.W.kitOne K (.ref C) (.ref PT) = some false) (con : ∃ u, Con K C "MOST_EDITS" (.int 60) u)
    (c_law_deck : C8.Cal P w K mg base 1 "_law_deck" (spDeck K) []) (c_law_draw : C8.Cal P w K mg base 1 "_law_draw" spDw []) (c_law_road : C8.Cal P w K mg base 2 "_law_road" spLr []) (c_law_starts : C8.Cal P w K mg base 2 "_law_starts" spLs [])
    (c_law_text : Cal P w K mg base 1 "_law_text" R_law_text) (c_law_due : Cal P w K mg base 3 "_law_due" R_law_due) (c_law_read : C8.Cal P w K mg base 10 "_law_read" (spLread C) []) (c_law_right : CalGd P w K mg base 10 "_law_right" (spRight C)) (c_law_edits_right : C8.Cal P w K mg base 10 "_law_edits_right" (spLe C) [])
    (cK : CalK P w K mg base C) (cE : CalM P w K mg base C CX0 3 "__eq__" (L2.spEq (SameT C))) {f : Addr} {fd : FuncData} (Fn : Fun K "law" "law" s_law f fd) : FnG P w K mg base CX0 11 f fd ["_law_script"] (spLaw K) := by
  have sc := sc_law
  obtain ⟨fI, fdI, FI, M, bI⟩ := cK.ex
  obtain ⟨fE, fdE, psE, FE, hmE, bE⟩ := cE.ex
  obtain ⟨uM, con⟩ := con
  refine K45.Fun.okG Fn sc (fun vs H Q E h => ?_) (fun cdv A outer s H vs Q E hgd hr h => ?_)
  · obtain ⟨a, ns, rfl, _⟩ := h
    rfl
  have hu := hr.units
  refine ⟨_, (pss_cons (ps_set (i := 1) sc.nd rfl (Or.inl rfl) (C8.pe_c c_law_deck hr (by decide) (by rfl) (pa_cons (pv 0) pa_nil)))
      (pss_cons (ps_for (passes_of rfl) rfl (u_range1 G (pa_cons pe_int pa_nil)) (pg_name (i := 2) sc.nd rfl (Or.inl rfl)) (pss_cons (ps_par (i := 3) (j := 4) rfl sc.nd rfl rfl (by decide) rfl rfl (pa_cons (C8.pe_c c_law_road hr (by decide) (by rfl) (pa_cons (pv 1) (pa_cons pe_int pa_nil))) (pa_cons (C8.pe_c c_law_starts hr (by decide) (by rfl) (pa_cons (pv 1) (pa_cons pe_int pa_nil))) pa_nil)) (by rfl))
      (pss_cons (ps_set (i := 5) sc.nd rfl (Or.inl rfl) (pe_tup (pa_cons (pe_ix (kx_ix G) (pv 3) pe_int (fun _ _ => rfl)) (pa_cons (pe_ix (kx_ix G) (pv 3) pe_int (fun _ _ => rfl)) (pa_cons (pe_op (kx_add G) (pe_ix (kx_ix G) (pv 3) pe_int (fun _ _ => rfl)) (pe_ix (kx_ix G) (pe_lst (pa_cons (pe_tup pa_nil) (pa_cons (pe_tup pa_nil) (pa_cons (pe_op (kx_mul G) (pe_tup (pa_cons pe_int pa_nil)) pe_int) pa_nil)))) (C8.pe_c c_law_draw hr (by decide) (by rfl) (pa_cons (pv 1) (pa_cons pe_int pa_nil))) (fun _ _ => rfl))) pa_nil)))))
      (pss_cons (ps_set (i := 6) sc.nd rfl (Or.inl rfl) (C8.pe_c c_law_text hr (by decide) (by rfl) (pa_cons (pv 5) (pa_cons (pe_op (kx_add G) (pv 4) (pe_ix (kx_ix G) (pe_lst (pa_cons (pe_tup pa_nil) (pa_cons (pe_tup pa_nil) (pa_cons (pe_op (kx_mul G) (pv 4) pe_int) pa_nil)))) (C8.pe_c c_law_draw hr (by decide) (by rfl) (pa_cons (pv 1) (pa_cons pe_int pa_nil))) (fun _ _ => rfl))) pa_nil))))
      (pss_cons (ps_if (pt_cmpR (kx_eq G hu) (C8.pe_c c_law_draw hr (by decide) (by rfl) (pa_cons (pv 1) (pa_cons pe_int pa_nil))) pe_int (nomark _)) (pss_cons (ps_set (i := 7) sc.nd rfl (Or.inl rfl) (C8.pe_c c_law_draw hr (by decide) (by rfl) (pa_cons (pv 1) (pa_cons (pe_op (kx_add G) (u_len G (pa_cons (pv 6) pa_nil)) pe_int) pa_nil))))
      (pss_cons (ps_set (i := 8) sc.nd rfl (Or.inl rfl) (pe_lst (pa_cons pe_str (pa_cons pe_str (pa_cons pe_str (pa_cons pe_str (pa_cons pe_str (pa_cons pe_str (pa_cons pe_str (pa_cons pe_str (pa_cons pe_str (pa_cons pe_str (pa_cons pe_str (pa_cons pe_str (pa_cons pe_str (pa_cons pe_str (pa_cons pe_str pa_nil)))))))))))))))))
      (pss_cons (ps_set (i := 9) sc.nd rfl (Or.inl rfl) (pe_ix (kx_ix G) (pv 8) (C8.pe_c c_law_draw hr (by decide) (by rfl) (pa_cons (pv 1) (pa_cons pe_int pa_nil))) (fun _ _ => rfl)))
      (pss_one (ps_set (i := 6) sc.nd rfl (Or.inl rfl) (pe_op (kx_add G) (pe_op (kx_add G) (pe_slice (kx_sl G) (pv 6) po_none (po_some (pv 7))) (pv 9)) (pe_slice (kx_sl G) (pv 6) (po_some (pe_op (kx_add G) (pv 7) (C8.pe_c c_law_draw hr (by decide) (by rfl) (pa_cons (pv 1) (pa_cons pe_int pa_nil))))) po_none))))))) pss_nil)
      (pss_cons (ps_set (i := 10) sc.nd rfl (Or.inl rfl) (pe_lst (pa_cons pe_non (pa_cons pe_int (pa_cons pe_bl (pa_cons (pe_tup pa_nil) (pa_cons (pe_lst pa_nil) (pa_cons pe_dnewK (pa_cons pe_str (pa_cons pe_str (pa_cons pe_str (pa_cons pe_str (pa_cons pe_str (pa_cons pe_str pa_nil))))))))))))))
      (pss_cons (ps_set (i := 10) sc.nd rfl (Or.inl rfl) (pe_op (kx_add G) (pv 10) (pe_lst (pa_cons pe_str (pa_cons pe_str (pa_cons pe_str (pa_cons pe_str (pa_cons pe_str pa_nil))))))))
      (pss_one (ps_for (passes_of rfl) rfl (pi_list (pe_lst (pa_cons (pv 6) (pa_cons (pe_ix (kx_ix G) (pv 10) (C8.pe_c c_law_draw hr (by decide) (by rfl) (pa_cons (pv 1) (pa_cons pe_int pa_nil))) (fun _ _ => rfl)) pa_nil)))) (pg_name (i := 11) sc.nd rfl (Or.inl rfl)) (pss_cons (ps_par (i := 12) (j := 13) rfl sc.nd rfl rfl (by decide) rfl rfl (pa_cons (C8.pe_c c_law_due hr (by decide) (by rfl) (pa_cons (pv 11) pa_nil)) (pa_cons (C8.pe_c c_law_read hr (by decide) (by rfl) (pa_cons (pv 11) pa_nil)) pa_nil)) (by rfl))
      (pss_one (ps_if (pt_cmpR (kx_eq G hu) (pe_ix (kx_ix G) (pv 12) pe_int (fun _ _ => rfl)) pe_str (nomark _)) (pss_one (ps_if (PW.pt (pw_or (pt_not (pt_val (u_isi G (pa_cons (pv 13) (pa_cons (u_tlist G) pa_nil))))) (pw_or1 (pt_cmpR (kx_ne G hu) (pe_repr hgd hr rfl G.repr (pa_cons (pv 13) pa_nil)) (pe_repr hgd hr rfl G.repr (pa_cons (pv 12) pa_nil)) (nomark _))))) (pss_one (ps_ret pe_bl)) pss_nil)) (pss_one (ps_if (PW.pt (pw_or (pt_val (u_isi G (pa_cons (pv 13) (pa_cons (u_tlist G) pa_nil)))) (pw_or (pt_val (u_isi G (pa_cons (pv 13) (pa_cons (pe_glob (v := .ref PT) rfl gP rfl) pa_nil)))) (pw_or1 (pt_cmpR (kx_ne G hu) (pe_con (pv 13) rfl) pe_int (nomark _)))))) (pss_one (ps_ret pe_bl)) (pss_one (ps_if (PW.pt (pw_or (pt_not (pt_val (pe_callGd c_law_right hgd hr (by decide) rfl (pa_cons (pv 13) (pa_cons (pv 12) (pa_cons (pe_lst pa_nil) pa_nil)))))) (pw_or1 (pt_not (pt_cmpR (op_eqG (rcG_ins FE hmE.at_ hmE.fn bE pass0) (hr.mono (by decide))) (pv 13) (pe_make M FI (hr.mono (by decide)) rfl ti.gC bI .nil pass0 (pa_cons (pe_ix (kx_ix G) (pv 12) pe_int (fun _ _ => rfl)) (pa_cons (pe_ix (kx_ix G) (pv 12) pe_int (fun _ _ => rfl)) pa_nil))) (nomark _)))))) (pss_one (ps_ret pe_bl)) (pss_one (ps_if (PW.pt (pw_or (pt_not (pt_val (C8.pe_c c_law_edits_right hr (by decide) (by rfl) (pa_cons (pv 13) (pa_cons (pv 12) pa_nil))))) (pw_or1 (pt_not (pt_val (pe_callGd c_law_right hgd hr (by decide) rfl (pa_cons (pv 13) (pa_cons (pv 12) (pa_cons (pe_lst pa_nil) pa_nil))))))))) (pss_one (ps_ret pe_bl)) pss_nil))))))))))))))))))
      (pss_one (ps_ret pe_bl)))), ?_⟩
  obtain ⟨a, ns, rfl, sq, hns, q⟩ := h
  have eb : Ex (fun _ => none) H := fun _ _ e => nomatch e
  have E0 : Env H (fun _ => none) H (L2.start n_law [.ref a]) (startT n_law a []) := env_startT .nil
  -- the deck
  refine cps_seqE (cps_callA (F := Tr0) (ss := [.v (.ref a)]) (a_cons (e_var rfl) a_nil) trivial eb E0 fun vs1 B1 H1 g1 o1 => ?_)
  obtain ⟨v1, rfl, p1⟩ := ok1 o1
  obtain rfl : v1 = .ref a := p1
  rw [List.append_nil]
  refine ⟨a, ns, rfl, ex_l g1.hh sq, hns, fun D Cl B2 H2 _ eb2 hD hCl k2 => ?_⟩
  have E2 : Env H2 B2 H2 ((L2.start n_law [.ref a]).set 1 (some (.ref D))) (lawL D) := lawL_of (σ := (L2.start n_law [.ref a]).set 1 (some (.ref D))) rfl rfl
  -- six turns
  refine cps_seqFor ?_
  refine ⟨6, rfl, by omega, by omega, ?_⟩
  refine for_it (walk_range (lo := 0) (n := (6 : Int).toNat)) (fun i σ' H' => ∃ B', Ex B' H' ∧ Dk D Cl (200 * (i : Int)) B' H' ∧ Env H' B' H' σ' (lawL D)) ⟨B2, eb2, k2.weak (by omega), E2⟩ (fun _ _ _ _ _ => trivial) ?_ ?_
  · rintro i x σ' H' H3 hlt ⟨B3, eb3, k3, E3⟩ ⟨rfl, rfl⟩
    have hlt : i < 6 := hlt
    have Et : Env H3 B3 H3 (σ'.set 2 (some (.int (0 + (i : Int))))) (lawL D) := (E3.set (i := 2) (s := .d (.int (0 + (i : Int)))) (.int _) rfl).at1 rfl rfl
    show tSeq _ _ _ (σ'.set 2 (some (.int (0 + (i : Int))))) H3
    generalize σ'.set 2 (some (.int (0 + (i : Int)))) = σt at Et ⊢
    -- the road, the starts
    refine cps_seqPar (cps_callA (F := Tr0) (ss := [.v (.ref D), .d (.int 12)]) (a_cons (e_var rfl) (a_cons e_int a_nil)) trivial eb3 Et fun vs4 B4 H4 g4 o4 => ?_)
    obtain ⟨v4, w4, rfl, p4, q4⟩ := ok2 o4
    obtain rfl : v4 = .ref D := p4
    obtain rfl := dp_int q4
    rw [List.append_nil]
    refine ⟨B4, D, Cl, 200 * (i : Int), g4.bh, rfl, k3.grow g4, by omega, fun vr wk rd bs B5 H5 m5 k5 dr rr => ?_⟩
    refine cps_callA (F := Tr0) (L := lawL D) (ss := [.v (.ref D), .d (.int 10)]) (a_cons (e_var rfl) (a_cons e_int a_nil)) trivial m5.bh ((Et.mono g4).flatB rfl m5.bb) fun vs6 B6 H6 g6 o6 => ?_
    obtain ⟨v6, w6, rfl, p6, q6⟩ := ok2 o6
    obtain rfl : v6 = .ref D := p6
    obtain rfl := dp_int q6
    rw [List.append_nil]
    refine ⟨B6, D, Cl, 200 * (i : Int) + 40, g6.bh, rfl, k5.grow g6, by omega, fun vs ss B7 H7 m7 k7 ls hs rs => ⟨vr, vs, rfl, ?_⟩⟩
    have E7 : Env H7 B7 H7 ((σt.set 3 (some vr)).set 4 (some vs)) [.u, .v (.ref D), .u, .d (roadD wk rd bs), .d (intsD ss), .u, .u, .u, .u, .u, .u, .u, .u, .u] := ((Et.flatB (H0' := H7) (H' := H7) rfl ((g4.bb.trans m5.bb).trans (g6.bb.trans m7.bb))).set (i := 3) (s := .d (roadD wk rd bs)) (dp_mono (g6.bb.trans m7.bb) rr) rfl).set (i := 4) (s := .d (intsD ss)) rs rfl
    generalize (σt.set 3 (some vr)).set 4 (some vs) = σ7 at E7 ⊢
    have z12 : ∀ b ∈ List.replicate 12 (0 : Int), 0 ≤ b ∧ b ≤ 100 := fun b hb => by rw [(List.mem_replicate.mp hb).2]; omega
    -- longer
    refine cps_asgI (s := fun x => ∃ bs' : List Int, x = roadD wk rd bs' ∧ bs'.length ≤ 24 ∧ ∀ b ∈ bs', 0 ≤ b ∧ b ≤ 100) (N1 := 200 * (i : Int) + 40 + 40 + 1) (i_imp (i_tup3 (s1 := fun x => x = .int wk) (s2 := fun x => x = .int rd) (s3 := TupI 24 100) (N1 := 200 * (i : Int) + 40 + 40) (N2 := 200 * (i : Int) + 40 + 40) (by rfl) (i_pure (e_ix (xs := [.int wk, .int rd, intsD bs]) (i := 0) (e_var (i := 3) rfl) (.inr rfl) e_int rfl) rfl) (i_pure (e_ix (xs := [.int wk, .int rd, intsD bs]) (i := 1) (e_var (i := 3) rfl) (.inr rfl) e_int rfl) rfl) (i_more (l0 := bs) (lX := List.replicate 12 0) (by rfl) rfl (e_ix (xs := [.int wk, .int rd, intsD bs]) (i := 2) (e_var (i := 3) rfl) (.inr rfl) e_int rfl) ((e_mult (xs := [.int 0]) (k := 12) (e_tup (ds := [.int 0]) (a_cons e_int a_nil) (by simp)) e_int (by simp) (by omega) (by omega) (by simp)).is rfl) dr.b z12 (by rw [List.length_replicate]; have := dr.n; omega) (by omega) (by omega))) fun x ⟨a, b, c, e, ha, hb, l, hc, h1, h2⟩ => ⟨l, by rw [e, ha, hb, hc], h1, h2⟩) (by rfl) m7.bh E7 k7 fun x8 B8 H8 σ8 m8 k8 hx8 E8 => ?_
    obtain ⟨bs', rfl, lb', hb'⟩ := hx8
    -- the text
    have rep10 : ∀ b ∈ (List.replicate 10 ss).flatten, 0 ≤ b ∧ b ≤ 1000000 := fun b hb => by
      obtain ⟨l, hl, hb⟩ := List.mem_flatten.mp hb
      rw [(List.mem_replicate.mp hl).2] at hb
      exact hs b hb
    have len10 : ((List.replicate 10 ss).flatten).length = 10 * ss.length := len_rep 10 ss
    refine cps_asgI (s := fun x => ∃ y, x = .str y ∧ Tx0 y) (N1 := 200 * (i : Int) + 40 + 40 + 1 + 1) (i_cal2 (s1 := fun x => x = roadD wk rd bs') (s2 := TupI 110 1000000) (N1 := 200 * (i : Int) + 40 + 40 + 1) (by rfl) (i_pure (e_var (i := 5) rfl) rfl) (i_more (l0 := ss) (lX := (List.replicate 10 ss).flatten) (by rfl) rfl (e_var (i := 4) rfl) ((e_mult (xs := ss.map PyData.int) (k := 10) (e_var (i := 4) rfl) e_int (fun z => by have := congrArg List.length z; simp at this; have := ls.1; simp_all) (by omega) (by omega) (by simp; omega)).is (by rw [flat_rep]; rfl)) hs rep10 (by rw [len10]; omega) (by omega) (by omega)) fun x y hx hy => by
      subst hx
      obtain ⟨l, rfl, hl, hb⟩ := hy
      have sw : Small wk := ⟨dr.w.1, by have := dr.w.2; omega⟩
      have sr : Small rd := ⟨dr.r.1, by have := dr.r.2; omega⟩
      have sb : ∀ b ∈ bs', Small b := fun b h => ⟨(hb' b h).1, by have := (hb' b h).2; omega⟩
      have sl : ∀ b ∈ l, Small b := fun b h => ⟨(hb b h).1, by have := (hb b h).2; omega⟩
      exact ⟨_, ⟨_, rfl, text_tx sw sr sb sl lb' hl⟩, R_law_text.mk wk rd bs' l sw sr sb sl (by omega) (by omega)⟩) (by rfl) m8.bh E8 k8 fun x9 B9 H9 σ9 m9 k9 hx9 E9 => ?_
    obtain ⟨x0, rfl, tx0⟩ := hx9
    have E9' : Env H9 B9 H9 σ9 [.u, .v (.ref D), .u, .d (roadD wk rd bs), .d (intsD ss), .d (roadD wk rd bs'), .d (.str x0), .u, .u, .u, .u, .u, .u, .u] := E9
    have E9x : Env H9 B9 H9 σ9 (lawX D (.str x0)) := E9'.less (.d (.k (.d (.d (.d (.d (.k (.d (.d (.d (.d (.d (.d (.d .nil))))))))))))))
    have mm9 := (m7.trans m8).trans m9
    clear E9 E9' E8 E7 E3
    refine cps_joinH (fun σ' H' => ∃ B' x, Ex B' H' ∧ Dk D Cl (200 * (i : Int) + 100) B' H' ∧ Env H' B' H' σ' (lawX D (.str x)) ∧ Tx x) ?tail fun tail => ?main
    case main =>
      refine cps_ifS (cps_testEq (i_drw 2 1 rfl rfl (i_pure e_int ⟨2, rfl, by omega, by omega⟩) (by omega) (by omega) B9 H9 σ9 m9.bh E9x k9 _ fun v y B10 H10 m10 k10 hy ry => ?_))
      obtain ⟨r, rfl, r0, r1⟩ := hy
      obtain rfl := dp_int ry
      have E10 : Env H10 B10 H10 σ9 (lawX D (.str x0)) := E9x.flatB rfl m10.bb
      refine .inl ⟨rfl, _, rfl, ?_⟩
      by_cases hr0 : r = 0
      · subst hr0
        refine if_yes (decide_eq_true rfl) ?_
        have hx0 := tx0.len
        refine cps_asgI (s := In 0 10000) (i_drw 10001 10000 rfl rfl (i_pure (e_add (c_lens (a_cons (e_var (i := 6) rfl) a_nil) (Nat.le_trans hx0 (by decide))) e_int) ⟨_, rfl, by omega, by omega⟩) (by omega) (by omega)) (by rfl) m10.bh E10 k10 fun xa B11 H11 σ11 m11 k11 hxa E11 => ?_
        obtain ⟨at_, rfl, a0, a1⟩ := hxa
        refine cps_asgI (s := fun x => x = .list someL) (i_pure (m_lst (ds := someL) (a_cons e_str (a_cons e_str (a_cons e_str (a_cons e_str (a_cons e_str (a_cons e_str (a_cons e_str (a_cons e_str (a_cons e_str (a_cons e_str (a_cons e_str (a_cons e_str (a_cons e_str (a_cons e_str (a_cons e_str a_nil))))))))))))))) (by decide)).d rfl) (by rfl) m11.bh E11 k11 fun xb B12 H12 σ12 m12 k12 hxb E12 => ?_
        subst hxb
        refine cps_asgI (s := fun x => ∃ m, x = .str m ∧ m.length ≤ 8 ∧ Asc (tl m)) (i_op (s1 := fun x => x = .list someL) (s2 := In 0 14) (by rfl) (i_pure (e_var (i := 8) rfl) rfl) (i_drw 15 14 rfl rfl (i_pure e_int ⟨15, rfl, by omega, by omega⟩) (by omega) (by omega)) fun x y hx hy => by
          subst hx
          obtain ⟨j, rfl, j0, j1⟩ := hy
          obtain ⟨z, hz, e⟩ := ix_mem (K := K) (xs := someL) j0 (show j < 15 by omega)
          exact ⟨z, some_ok z hz, e⟩) (by rfl) m12.bh E12 k12 fun xc B13 H13 σ13 m13 k13 hxc E13 => ?_
        obtain ⟨mk, rfl, mk1, mk2⟩ := hxc
        have lsl : (Txt.slice x0 none (some at_)).length ≤ 5000 := by
          have := PyProof.Txt.length_slice_le x0 none (some at_)
          omega
        refine cps_asgI1 (s := fun z => ∃ y, z = .str y ∧ Tx y) (i_op (s1 := fun z => z = .str (Txt.slice x0 none (some at_) ++ mk)) (s2 := fun y => ∃ j : Int, at_ ≤ j ∧ j ≤ at_ + 1 ∧ y = .str (Txt.slice x0 (some j) none)) (by rfl) (i_pure (e_adds (x := Txt.slice x0 none (some at_)) (y := mk) (e_slt (lo := none) (hi := some at_) (e_var (i := 6) rfl) o_none (o_some (e_var (i := 7) rfl)) (Nat.le_trans hx0 (by decide))) (e_var (i := 9) rfl) (Nat.le_trans (Nat.add_le_add lsl mk1) (by decide))) rfl) (i_from (lo := at_) (hi := at_ + 1) (by rfl) (by omega) (e_var (i := 6) rfl) (i_imp (i_add (a := at_) (b := at_) (c := 0) (d := 1) (by rfl) (i_pure (e_var (i := 7) rfl) ⟨at_, rfl, by omega, by omega⟩) (i_drw 2 1 rfl rfl (i_pure e_int ⟨2, rfl, by omega, by omega⟩) (by omega) (by omega))) fun x ⟨q, h, h1, h2⟩ => ⟨q, h, by omega, by omega⟩)) fun x y hx hy => by
          subst hx
          obtain ⟨j, j0, j1, rfl⟩ := hy
          have l3 := PyProof.Txt.length_slice_le x0 (some j) none
          refine ⟨_, ⟨_, rfl, mark_tx tx0 mk1 mk2 a0 j0⟩, e_adds (e_var rfl) (e_var rfl) ?_⟩
          rw [app_len]
          exact Nat.le_trans (by omega : _ ≤ 20000) (by decide)) (by rfl) m13.bh E13 k13 fun xd B14 H14 σ14 m14 k14 hxd E14 => ?_
        obtain ⟨x1, rfl, tx1⟩ := hxd
        have E14' : Env H14 B14 H14 σ14 [.u, .v (.ref D), .u, .u, .u, .u, .d (.str x1), .d (.int at_), .d (.list someL), .d (.str mk), .u, .u, .u, .u] := E14
        exact tail _ _ ⟨B14, x1, m14.bh, k14.weak (by omega), E14'.less (.d (.k (.d (.d (.d (.d (.k (.d (.d (.d (.d (.d (.d (.d .nil)))))))))))))), tx1⟩
      · refine if_no (decide_eq_false (fun z => hr0 (by cases z; rfl))) ?_
        exact tail _ _ ⟨B10, x0, m10.bh, k10.weak (by omega), E10, tx0.tx⟩
    case tail =>
      rintro σ' H' ⟨B10, x1, eb10, k10, E10, tx1⟩
      refine cps_asgI (s := fun x => x = .list odd1) (i_pure (m_lst (ds := odd1) (a_cons e_non (a_cons e_int (a_cons e_bl (a_cons (e_tup (ds := []) a_nil (by simp)) (a_cons (m_lst (ds := []) a_nil (by simp)).d (a_cons e_dict (a_cons e_str (a_cons e_str (a_cons e_str (a_cons e_str (a_cons e_str (a_cons e_str a_nil)))))))))))) (by decide)).d rfl) (by rfl) eb10 E10 k10 fun xb B12 H12 σ12 m12 k12 hxb E12 => ?_
      subst hxb
      refine cps_asgI (s := fun x => x = .list (odd1 ++ odd2)) (i_pure (m_add (xs := odd1) (ys := odd2) (e_var (i := 10) rfl) rfl (m_lst (ds := odd2) (a_cons e_str (a_cons e_str (a_cons e_str (a_cons e_str (a_cons e_str a_nil))))) (by decide)).d rfl (by decide)).d rfl) (by rfl) m12.bh E12 k12 fun xb B13 H13 σ13 m13 k13 hxb E13 => ?_
      subst hxb
      refine cps_forI (N1 := 200 * (i : Int) + 100 + 1) (s := fun l => ∃ x y, l = .list [x, y] ∧ x = .str x1 ∧ y ∈ odd1 ++ odd2) (i_lst2 (N1 := 200 * (i : Int) + 100) (by rfl) (i_pure (e_var (i := 6) rfl) rfl) (i_op (s1 := fun x => x = .list (odd1 ++ odd2)) (s2 := In 0 16) (N1 := 200 * (i : Int) + 100) (by rfl) (i_pure (e_var (i := 10) rfl) rfl) (i_drw 17 16 rfl rfl (i_pure e_int ⟨17, rfl, by omega, by omega⟩) (by omega) (by omega)) fun x y hx hy => by
        subst hx
        obtain ⟨j, rfl, j0, j1⟩ := hy
        obtain ⟨z, hz, e⟩ := ix_mem (K := K) (xs := odd1 ++ odd2) j0 (show j < 17 by omega)
        exact ⟨z, hz, e⟩)) (by rfl) m13.bh E13 k13 rfl rfl (fun l ⟨x, y, e, hx, hy⟩ => ⟨[x, y], e, fun d hd => ?_⟩) (fun d σ2 B2 H2 Dn' hit eb2 k2 E2 hnx => ?_) (fun σ2 H2 B2 e2 k2 E2 => ⟨B2, e2, k2.weak (by rw [Int.natCast_add]; omega), E2⟩)
      · rcases List.mem_cons.mp hd with h | h
        · rw [h, hx]; exact .inr ⟨x1, rfl, tx1⟩
        · rw [List.mem_singleton.mp h]; exact odd_ok y hy
      · refine cps_seqPar ?_
        have lawT_bad : ∀ (n : PyData) (v fv : V) (B' H' : Hp), (n = .none ∨ ∃ k : Nat, n = .int (k : Int) ∧ k ≤ 100000) → GrowM (MD D Cl) B2 H2 B' H' → Dk D Cl (200 * (i : Int) + 100 + 1) B' H' → Rp B' v (.list [.str "text", n]) → Rp B' fv (.list [.str "text", n]) → ∀ {c1 c2 : TT} {u1 u2 : TS}, EvT Tr0 c1 (law2 D n) true → EvT Tr0 c2 (law2 D n) false → tIfS c1 (tIfS c2 u1 tNext) u2 Dn' ((σ2.set 12 (some v)).set 13 (some fv)) H' := fun n v fv B' H' hn m k r1 r2 c1 c2 u1 u2 h1 h2 => by
          have E' : Env H' B' H' ((σ2.set 12 (some v)).set 13 (some fv)) (law2 D n) := (((E2.flatB (H0' := H') (H' := H') rfl m.bb).set (i := 12) (s := .d (.list [.str "text", n])) r1 rfl).set (i := 13) (s := .d (.list [.str "text", n])) r2 rfl).less (.k (.k (.k (.k (.k (.k (.k (.k (.k (.k (.k (.d (.k (.k .nil))))))))))))))
          refine cps_ifS (h1.go trivial m.bh E' fun B3 H3 g3 => if_yes rfl (cps_ifS (h2.go trivial g3.bh (E'.flatB rfl g3.bb) fun B4 H4 g4 => if_no rfl ?_)))
          exact hnx _ _ B4 ((m.bb.trans g3.bb).trans g4.bb) g4.bh ((k.grow g3).grow g4) (E'.at1 rfl rfl)
        have bad1 : ∀ n : PyData, EvT Tr0 (tTest (tOp (rEqU K) (tOp (rIx K) (tVar 12) (tC (.int 0))) (tC (.str "text")))) (law2 D n) true := fun n =>
          (t_test (e_eqS (i := "text") (j := "text") (e_ix (xs := [.str "text", n]) (i := 0) (e_var (i := 12) rfl) (.inl rfl) e_int rfl) e_str)).is (by simp)
        have bad2 : ∀ n : PyData, (n = .none ∨ ∃ k : Nat, n = .int (k : Int) ∧ k ≤ 100000) → EvT Tr0 (tOr (tNot (tB (tCB (rIsiU K) (tCons (tVar 13) (tCons (tC (.ty "list")) tNil))))) (tTest (tOp (rNeU K) (tCB (rRepr K) (tCons (tVar 13) tNil)) (tCB (rRepr K) (tCons (tVar 12) tNil))))) (law2 D n) false := fun n hn => by
          have z := shw_text n hn
          exact (t_or (b := false) (c := false) ((t_not (t_B (c_isi (x := .list [.str "text", n]) (b := true) (a_cons (e_var (i := 13) rfl) (a_cons e_val a_nil)) rfl rfl))).is rfl) fun _ => (t_test (e_neS (i := (PyData.list [.str "text", n]).shown) (j := (PyData.list [.str "text", n]).shown) (c_repr (a_cons (e_var (i := 13) rfl) a_nil) rfl (.inl ⟨_, rfl⟩) z.lay z.shw z.dic z.len z.dep) (c_repr (a_cons (e_var (i := 12) rfl) a_nil) rfl (.inl ⟨_, rfl⟩) z.lay z.shw z.dic z.len z.dep))).is (by simp)).is rfl
        refine cps_callA (F := Tr0) (ss := [.d d]) (a_cons (e_var (i := 11) rfl) a_nil) trivial eb2 E2 fun vs3 B3 H3 g3 o3 => ?_
        obtain ⟨v3, rfl, p3⟩ := ok1 o3
        rw [List.append_nil]
        rcases hit with ⟨h1, h2⟩ | ⟨x, rfl, tx⟩
        · refine ⟨B3, [d], _, g3.bh, dpa_one p3, .no d h1 h2, fun v4 B4 H4 g4 r4 => ?_⟩
          refine cps_callA (F := Tr0) (ss := [.d d]) (a_cons (e_var (i := 11) rfl) a_nil) trivial g4.bh ((E2.mono g3).flatB rfl g4.bb) fun vs5 B5 H5 g5 o5 => ?_
          obtain ⟨v5, rfl, p5⟩ := ok1 o5
          rw [List.append_nil]
          refine ⟨B5, d, v5, g5.bh, rfl, p5, .inl ⟨h1, h2, fun v6 B6 H6 g6 r6 => ⟨v4, v6, rfl, ?_⟩⟩⟩
          have gg := ((g3.trans g4).trans g5).trans g6
          exact lawT_bad .none v4 v6 B6 H6 (.inl rfl) gg.toM (k2.grow gg) (dp_mono (g5.trans g6).bb r4) r6 (bad1 _) (bad2 _ (.inl rfl))
        · refine ⟨B3, [.str x], _, g3.bh, dpa_one p3, .mk x tx, fun v4 B4 H4 g4 r4 => ?_⟩
          refine cps_callA (F := Tr0) (ss := [.d (.str x)]) (a_cons (e_var (i := 11) rfl) a_nil) trivial g4.bh ((E2.mono g3).flatB rfl g4.bb) fun vs5 B5 H5 g5 o5 => ?_
          obtain ⟨v5, rfl, p5⟩ := ok1 o5
          rw [List.append_nil]
          have g25 := (g3.trans g4).trans g5
          refine ⟨B5, .str x, v5, g5.bh, rfl, p5, .inr ⟨x, rfl, tx, fun n hn v6 B6 H6 g6 r6 => ⟨v4, v6, rfl, ?_⟩, fun hn wk rd bs ss hok good t ls lf le B6 H6 N => ⟨v4, _, rfl, ?_⟩⟩⟩
          · have gg := g25.trans g6
            have hk : PyData.int (n : Nat) = .none ∨ ∃ k : Nat, PyData.int (n : Nat) = .int (k : Int) ∧ k ≤ 100000 := .inr ⟨n, rfl, Nat.le_trans (dueN_le hn) (by decide)⟩
            have hd : dueD x = .list [.str "text", .int (n : Nat)] := by unfold dueD; rw [hn]
            rw [hd] at r4
            exact lawT_bad _ v4 v6 B6 H6 hk gg.toM (k2.grow gg) (dp_mono (g5.trans g6).bb r4) r6 (bad1 _) (bad2 _ hk)
          · have hd : dueD x = .list [roadD wk rd bs, intsD ss] := by unfold dueD okL; rw [hn, hok]
            rw [hd] at r4
            have g26 := g25.trans N.g
            have k6 := k2.grow g26
            have E6 : Env H6 B6 H6 ((σ2.set 12 (some v4)).set 13 (some (.ref t))) (law3 D wk rd bs ss t) := (((E2.flatB (H0' := H6) (H' := H6) rfl g26.bb).set (i := 12) (s := .d (.list [roadD wk rd bs, intsD ss])) (dp_mono (g5.trans N.g).bb r4) rfl).set (i := 13) (s := .v (.ref t)) rfl rfl).less (.k (.k (.k (.k (.k (.k (.k (.k (.k (.k (.k (.d (.k (.k .nil))))))))))))))
            generalize (σ2.set 12 (some v4)).set 13 (some (.ref t)) = σ6 at E6 ⊢
            have a0 : ∀ {F : Fx}, EvE F (tOp (rIx K) (tVar 12) (tC (.int 0))) (law3 D wk rd bs ss t) (.d (roadD wk rd bs)) := fun {F} => e_ix (xs := [roadD wk rd bs, intsD ss]) (i := 0) (e_var (i := 12) rfl) (.inl rfl) e_int rfl
            have a1 : ∀ {F : Fx}, EvE F (tOp (rIx K) (tVar 12) (tC (.int 1))) (law3 D wk rd bs ss t) (.d (intsD ss)) := fun {F} => e_ix (xs := [roadD wk rd bs, intsD ss]) (i := 1) (e_var (i := 12) rfl) (.inl rfl) e_int rfl
            have hF : ∀ H0 B0, FT C t ls lf le [.tuple [roadD wk rd bs, intsD ss]] [.int (finishOf wk rd bs ss)] [] H0 B0 → TripS C B0 H0 t ls lf le [.tuple [roadD wk rd bs, intsD ss]] [.int (finishOf wk rd bs ss)] [] := fun _ _ h => h
            have sm := finish_small good
            have rt : ∀ {E : XK}, EvT (FT C t ls lf le [.tuple [roadD wk rd bs, intsD ss]] [.int (finishOf wk rd bs ss)] []) (tNot (tB (tCall (spRight C) [] E (tCons (tVar 13) (tCons (tVar 12) (tCons (tLst tNil) tNil)))))) (law3 D wk rd bs ss t) false := fun {E} =>
              (t_not (t_B (e_right hF good sm (a_cons (e_var (i := 13) rfl) (a_cons (e_var (i := 12) rfl) (a_cons (m_lst (ds := []) a_nil (by decide)).d a_nil)))))).is rfl
            -- text?
            have shR : SeqAt.shaped (roadD wk rd bs) = true := shaped_road wk rd bs
            refine cps_ifS (EvT.go (F := FT C t ls lf le [.tuple [roadD wk rd bs, intsD ss]] [.int (finishOf wk rd bs ss)] []) ((t_test (e_eq (x := roadD wk rd bs) (y := .str "text") a0 rfl e_str rfl shR (by decide +kernel))).is (c := false) rfl) N.T N.g.bh E6 fun B7 H7 g7 => if_no rfl ?_)
            have E7 := E6.flatB (H0' := H7) (H' := H7) rfl g7.bb
            have T7 := N.T.mono g7
            -- its class
            refine cps_ifS (EvT.go (F := FT C t ls lf le [.tuple [roadD wk rd bs, intsD ss]] [.int (finishOf wk rd bs ss)] []) (b := false) ((t_or (b := false) (c := false) (t_B (c_isiT tc ti hF (a_cons (e_var (i := 13) rfl) (a_cons e_val a_nil)) (.ty _) ti.lst)) fun _ => (t_or (b := false) (c := false) (t_B (c_isiT tc ti hF (a_cons (e_var (i := 13) rfl) (a_cons e_val a_nil)) (.own PT) kP)) fun _ => (t_test (e_neI (i := 60) (j := 60) (e_vint (e_con tc.cls con hF rfl (e_var (i := 13) rfl))) e_int)).is rfl).is rfl).is rfl) T7 g7.bh E7 fun B8 H8 g8 => if_no rfl ?_)
            have E8 := E7.flatB (H0' := H8) (H' := H8) rfl g8.bb
            have T8 := T7.mono g8
            -- right, and as one made anew
            refine cps_ifS (EvT.go (F := FT C t ls lf le [.tuple [roadD wk rd bs, intsD ss]] [.int (finishOf wk rd bs ss)] []) (b := false) ((t_or (b := false) (c := false) rt fun _ => (t_not (t_test (e_eqMk hF rfl good (e_var (i := 13) rfl) (a_cons a0 (a_cons a1 a_nil))))).is rfl).is rfl) T8 g8.bh E8 fun B9 H9 g9 => if_no rfl ?_)
            have E9 := E8.flatB (H0' := H9) (H' := H9) rfl g9.bb
            have T9 := T8.mono g9
            have k9 := ((k6.grow g7).grow g8).grow g9
            -- its edits
            refine cps_ifS (tor_go (cps_tnB (cps_callA (F := Tr0) (ss := [.v (.ref t), .d (.list [roadD wk rd bs, intsD ss])]) (a_cons (e_var (i := 13) rfl) (a_cons (e_var (i := 12) rfl) a_nil)) trivial g9.bh E9 fun vsa Ba Ha ga oa => ?_)))
            obtain ⟨va, wa, rfl, pa, qa⟩ := ok2 oa
            obtain rfl : va = .ref t := pa
            rw [List.append_nil]
            refine ⟨Ba, t, ls, lf, le, wa, wk, rd, bs, ss, ga.bh, T9.mono ga, rfl, qa, good, fun Bb Hb mb Tb => ⟨true, rfl, if_no rfl ?_⟩⟩
            have hD2 : ∃ o, H5 D = some o := by
              obtain ⟨_, _, h1, _⟩ := (k2.grow g25).ex
              exact ⟨_, h1⟩
            have hC2 : ∃ o, H5 Cl = some o := by
              obtain ⟨_, _, _, h1, _⟩ := (k2.grow g25).ex
              exact ⟨_, h1⟩
            have no : ∀ a : Addr, (∃ o, H5 a = some o) → ¬ Lists ls lf le a := fun a ⟨o, ho⟩ z => by
              rcases z with rfl | rfl | rfl
              · rw [N.s0] at ho; cases ho
              · rw [N.f0] at ho; cases ho
              · rw [N.e0] at ho; cases ho
            have kb := (k9.grow ga).growM mb (no _ hD2) (no _ hC2)
            have Eb := E9.flatB (H0' := Hb) (H' := Hb) rfl (ga.bb.trans mb.bb)
            refine EvT.go (F := FT C t ls lf le [.tuple [roadD wk rd bs, intsD ss]] [.int (finishOf wk rd bs ss)] []) rt Tb mb.bh Eb fun Bc Hc gc => if_no rfl ?_
            exact hnx _ _ Bc ((((((g26.bb.trans g7.bb).trans g8.bb).trans g9.bb).trans ga.bb).trans mb.bb).trans gc.bb) gc.bh (kb.grow gc) (Eb.at1 rfl rfl)
  · rintro σ' H' ⟨B3, eb3, k3, E3⟩
    exact q H'
end
end K45
-- HE
set_option maxHeartbeats 2000000
/-! the law's call, from a promise that wants no guards around it -/
namespace K45
open PySem PySem.Spec PyProof.Rows L2
section
variable {P : Program} {w : World} {K : PySem.W.Frag} {mg mb : Str → Option Value} {k : Nat} {fa a : Addr} {fd : FuncData} {x : Str} {sp : Sp} {t : Shared} {vs : List Value} {ns : List Int} {H : Hp} {base : Heap}
abbrev scrO (vs : List Value) : Obj := { cls := .type "list", data := .seq vs.toArray }
abbrev EndsT (t : Shared) (r : Result) (t' : Shared) : Prop := r = .ok (.ret (.bool true)) ∧ OldK t.heap t'.heap ∧ t'.os = t.os ∧ AllBare t'.gens
/-- what is not tracked stays in sight -/
theorem seen (away : ∀ b, H b ≠ none → b = a) {b : Addr} {o : Obj} (e : t.heap.get? b = some o) (n : b = a → H a = none) : (hidT t.heap H).get? b = some o :=
  hidT_get e (Classical.byContradiction fun z => z (by obtain rfl := away b z; exact n rfl))
theorem ns_seen (away : ∀ b, H b ≠ none → b = a) (ha : t.heap.get? a = some (scrO vs)) {b : Addr} {m : Str → Option Value} (h : t.heap.Ns b m) : (hidT t.heap H).Ns b m := by
  obtain ⟨o, es, ep, e, d, r⟩ := h
  refine ⟨o, es, ep, seen away e fun z => ?_, d, r⟩
  subst z
  obtain rfl : o = scrO vs := Option.some.inj (e.symm.trans ha)
  exact absurd d (fun z => nomatch z)
theorem k_seen (KX : K.In t.heap) (away : ∀ b, H b ≠ none → b = a) (hK : H a ≠ none → K.lookup a = none) : K.In (hidT t.heap H) := fun b o e =>
  seen away (KX b o e) fun z => Classical.byContradiction fun y => by subst z; rw [hK y] at e; cases e
theorem env0_of (KX : K.In t.heap) (hns : t.heap.Ns mainGlobals mg) (hb : t.heap.Ns builtinsNs mb) (hbb : ∀ y : Str, y ≠ "__name__" → mb y = bootBuiltins y) (hlim : t.heap.NoLimit) (hg : t.gens = #[])
    (ha : t.heap.get? a = some (scrO vs)) (hok : HOk P w H t.heap) (away : ∀ b, H b ≠ none → b = a) (hK : H a ≠ none → K.lookup a = none) : Env0 P w K mg (hidT t.heap H) callerA [] t H where
  frames := rfl
  mod := ⟨k_seen KX away hK, ns_seen away ha hns, ⟨mb, ns_seen away ha hb, hbb⟩, by obtain ⟨mc, h1, h2⟩ := hlim; exact ⟨mc, ns_seen away ha h1, h2⟩⟩
  bs := fun _ _ e => of_hidT e
  bsz := Nat.le_of_eq (hidT_size _ _)
  funs := trivial
  frf := fun b hb => nomatch (show b ∈ ([] : List Addr) from hb)
  hok := hok
  bare := .of_eq hg
theorem law_from (hO : Only H) (e0 : Env0 P w K mg base callerA [] t H) (F : FnG P w K mg base CX0 k fa fd [x] sp) (hr : Room k callerA) (hbind : BindsTo t fd ⟨[.ref a], []⟩ [(x, .ref a)])
    (hsp : sp [.ref a] H (fun v _ => v = .bl true) fun _ _ _ => False) : codeAny (model P w) callerA (.call (.ref fa) ⟨[.ref a], []⟩) (EndsT t) t :=
  codeAny_mono (F.run callerA [] t H ⟨[.ref a], []⟩ [.ref a] [.ref a] _ _ rfl hr e0 hbind (.cons rfl .nil) hsp) fun r t' h => match r, h with
    | .error _, h => h.elim
    | .ok .next, h => False.elim h
    | .ok .brk, h => False.elim h
    | .ok .cont, h => False.elim h
    | .ok (.ret u), ⟨v, H', os, bare, un, hok', rv, q⟩ => by
      obtain rfl : v = .bl true := q
      obtain rfl : u = Value.bool true := rv
      have no : ∀ b : Addr, b ∉ ([] : List Addr) := fun b z => nomatch z
      refine ⟨rfl, OldK.of_keep fun b o e => ?_, os, bare⟩
      rcases hO b with z | ⟨ob, xs, z⟩
      · exact un.keep b o e z (no b) (no b)
      · have e1 := (e0.hok b _ z).1
        have e2 := (hok' b _ (un.frzs b ob _ z)).1
        rw [e1] at e
        cases e
        exact e2
theorem law_callG (KX : K.In t.heap) (hns : t.heap.Ns mainGlobals mg) (hb : t.heap.Ns builtinsNs mb) (hbb : ∀ y : Str, y ≠ "__name__" → mb y = bootBuiltins y) (hlim : t.heap.NoLimit) (hg : t.gens = #[])
    (ha : t.heap.get? a = some (scrO vs)) (hi : IntsAre vs ns) (hl : ns.length ≤ sizeLine) (hr : Room k callerA) (hbind : ∀ (s : Shared) (u : Value), BindsTo s fd ⟨[u], []⟩ [(x, u)])
    (F : ∀ base : Heap, K.In base → base.Ns mainGlobals mg → FnG P w K mg base CX0 k fa fd [x] sp)
    (hsp : ∀ H : Hp, SqL K H a (ns.map V.int) → sp [.ref a] H (fun v _ => v = .bl true) fun _ _ _ => False) : codeAny (model P w) callerA (.call (.ref fa) ⟨[.ref a], []⟩) (EndsT t) t := by
  have rv := vals_ints hi
  have go : ∀ H : Hp, Only H → SqL K H a (ns.map V.int) → HOk P w H t.heap → (∀ b, H b ≠ none → b = a) → (H a ≠ none → K.lookup a = none) → codeAny (model P w) callerA (.call (.ref fa) ⟨[.ref a], []⟩) (EndsT t) t := fun H hO hS hok away hK =>
    law_from hO (env0_of KX hns hb hbb hlim hg ha hok away hK) (F _ (k_seen KX away hK) (ns_seen away ha hns)) hr (hbind t _) (hsp H hS)
  cases hk : K.lookup a with
  | some o =>
    obtain rfl : scrO vs = o := Option.some.inj (ha.symm.trans (KX a o hk))
    have lv := hi.length
    refine go (fun _ => none) (fun _ => .inl rfl) (.inr ⟨_, vs.toArray, _, hk, rfl, rfl, rfl, ?_, by simpa using rv⟩) (fun b u z => nomatch z) (fun b z => absurd rfl z) fun z => absurd rfl z
    rw [List.size_toArray, lv]; exact hl
  | none =>
    have at_ : ∀ b u, (if b = a then some (HO.frz (scrO vs) (.lst (ns.map V.int))) else none) = some u → b = a ∧ u = .frz (scrO vs) (.lst (ns.map V.int)) := fun b u z => by
      by_cases y : b = a
      · rw [if_pos y] at z; cases z; exact ⟨y, rfl⟩
      · rw [if_neg y] at z; cases z
    refine go (fun b => if b = a then some (.frz (scrO vs) (.lst (ns.map V.int))) else none) (fun b => ?_) (.inl (.inr ⟨scrO vs, if_pos rfl⟩)) (fun b u z => ?_) (fun b z => ?_) fun _ => hk
    · by_cases y : b = a
      · exact .inr ⟨_, _, if_pos y⟩
      · exact .inl (if_neg y)
    · obtain ⟨rfl, rfl⟩ := at_ b u z
      exact ⟨ha, by rw [List.length_map]; exact hl, vs, _, rv, ha⟩
    · exact Classical.byContradiction fun y => z (if_neg y)
end
/-- the law's end, from what a Hook says -/
theorem walk_ofG {l : PySem.W.OpenLaw} {n k : Nat} {q : Program} {loose : List Str} {XP : (Str → Option Value) → Heap → Prop} {YP : World → Heap → Prop} {d : DefRec} {x : Str} (hn : l.most = some n) (hn2 : n ≤ sizeLine) (hdf : d.params.defaults = []) (hr : Room k callerA)
    (F : ∀ (w : World) (mg : Str → Option Value) (fa : Addr) (h : Heap), YP w h → h.Ns mainGlobals mg → mg d.name = some (.ref fa) → ∃ (K : PySem.W.Frag) (fd : FuncData) (sp : Sp), K.In h ∧ (∀ (s : Shared) (u : Value), BindsTo s fd ⟨[u], []⟩ [(x, u)]) ∧
      (∀ (H : Hp) (a : Addr) (ns : List Int), ns.length ≤ n → SqL K H a (ns.map V.int) → sp [.ref a] H (fun v _ => v = .bl true) fun _ _ _ => False) ∧ ∀ base : Heap, K.In base → base.Ns mainGlobals mg → FnG l.prog w K mg base CX0 k fa fd [x] sp) :
    PySem.W.WalkO q loose XP YP l.row.toRowW d [] (fun f vs => PySem.call f vs) := by
  refine Att.attach_call hn hdf fun w s0 t mg mb fa o pm cd doc a vs ns G Y ho hd hcd hmg hobj hints hlen hg => ?_
  obtain ⟨K, fd, sp, KX, b, hsp, hF⟩ := F w mg fa _ Y G.T.g hmg
  exact law_callG KX G.T.g G.T.b G.T.builtins G.T.nolimit hg hobj hints (Nat.le_trans hlen hn2) hr b hF fun H hS => hsp H a ns hlen hS
end K45
-- HZ
set_option maxHeartbeats 4000000
namespace K45
open PySem PySem.Spec PyProof.Rows L2 He
section
variable {P : Program} {w : World} {K : PySem.W.Frag} {mg : Str → Option Value} {base : Heap}
/-- what the head says of the text's names -/
structure Said (K : PySem.W.Frag) (mg : Str → Option Value) : Prop where
  G : Gs K mg
  d_is_number : DefF K mg "is_number" (top 29)
  d_are_ticks : DefF K mg "are_ticks" (top 30)
  d_road_error : DefF K mg "road_error" (top 31)
  d_is_road : DefF K mg "is_road" (top 32)
  d_counts_of : DefF K mg "counts_of" (top 33)
  d_are_starts : DefF K mg "are_starts" (top 35)
  d_leaves_of : DefF K mg "leaves_of" (top 36)
  d_stages_of : DefF K mg "stages_of" (top 37)
  d_ticks_of : DefF K mg "ticks_of" (top 38)
  d_finish_of : DefF K mg "finish_of" (top 39)
  d_latest_people : DefF K mg "latest_people" (top 44)
  d_rule_plan : DefF K mg "rule_plan" (top 45)
  d_least_finish : DefF K mg "least_finish" (top 46)
  d_parse_number : DefF K mg "parse_number" (top 54)
  d_parse_numbers : DefF K mg "parse_numbers" (top 55)
  d_parse_ticks : DefF K mg "parse_ticks" (top 56)
  d_parse_bikes : DefF K mg "parse_bikes" (top 57)
  d_parse_starts : DefF K mg "parse_starts" (top 58)
  d_parse_part : DefF K mg "parse_part" (top 59)
  d_parse_trip : DefF K mg "parse_trip" (top 60)
  d_is_within : DefF K mg "is_within" (top 62)
  d_with_person : DefF K mg "with_person" (top 63)
  d_without_person : DefF K mg "without_person" (top 64)
  d_law_deck : DefF K mg "_law_deck" (top 72)
  d_law_draw : DefF K mg "_law_draw" (top 73)
  d_law_road : DefF K mg "_law_road" (top 74)
  d_law_starts : DefF K mg "_law_starts" (top 75)
  d_law_ruled : DefF K mg "_law_ruled" (top 76)
  d_law_finish : DefF K mg "_law_finish" (top 77)
  d_law_do : DefF K mg "_law_do" (top 78)
  d_law_right : DefF K mg "_law_right" (top 79)
  d_law_number : DefF K mg "_law_number" (top 80)
  d_law_numbers : DefF K mg "_law_numbers" (top 81)
  d_law_ticks : DefF K mg "_law_ticks" (top 82)
  d_law_due : DefF K mg "_law_due" (top 83)
  d_law_text : DefF K mg "_law_text" (top 84)
  d_law_read : DefF K mg "_law_read" (top 85)
  d_law_edits_right : DefF K mg "_law_edits_right" (top 86)
  d_law : DefF K mg "law" (top 87)
  tc : TripC K (trC K)
  m_own_key : DefM K (trC K) "own_key" "Trip.own_key" (inClass (top 69) 6)
  m_accept : DefM K (trC K) "accept" "Trip.accept" (inClass (top 69) 7)
  m_len : DefM K (trC K) "__len__" "Trip.__len__" (inClass (top 69) 8)
  m_eq : DefM K (trC K) "__eq__" "Trip.__eq__" (inClass (top 69) 9)
  m_str : DefM K (trC K) "__str__" "Trip.__str__" (inClass (top 69) 10)
  m_require_idle : DefM K (trC K) "require_idle" "Trip.require_idle" (inClass (top 69) 11)
  m_state_after : DefM K (trC K) "state_after" "Trip.state_after" (inClass (top 69) 12)
  m_perform : DefM K (trC K) "perform" "Trip.perform" (inClass (top 69) 13)
  m_come : DefM K (trC K) "come" "Trip.come" (inClass (top 69) 14)
  m_leave : DefM K (trC K) "leave" "Trip.leave" (inClass (top 69) 15)
  m_undo : DefM K (trC K) "undo" "Trip.undo" (inClass (top 69) 18)
  m_state_at : DefM K (trC K) "state_at" "Trip.state_at" (inClass (top 69) 21)
  m_state : DefMK K (trC K)
  m_edits : DefM K (trC K) "edits" "Trip.edits" (inClass (top 69) 25)
  init : ∃ f fd, Fun K "__init__" "Trip.__init__" (inClass (top 69) 1) f fd ∧ Mk K (trC K) f
  p_road : ∃ p g fd, PropOf K (trC K) "road" p g ∧ Fun K "road" "Trip.road" (inClass (top 69) 3) g fd
  p_starts : ∃ p g fd, PropOf K (trC K) "starts" p g ∧ Fun K "starts" "Trip.starts" (inClass (top 69) 4) g fd
  p_finish : ∃ p g fd, PropOf K (trC K) "finish" p g ∧ Fun K "finish" "Trip.finish" (inClass (top 69) 5) g fd
  read : ∃ mc p g fd, ClX.CRead K (trC K) mc ∧ ClX.CMet K (trC K) mc "read" p g ∧ Fun K "read" "Trip.read" (inClass (top 69) 2) g fd
  oN : Own0 K mg "NothingToUndo" (ga K "NothingToUndo")
  exN : PySem.W.exmOne K (.ref (ga K "NothingToUndo")) (.ref (ga K "NothingToUndo")) = some true
  ti : TripI K mg (trC K)
  gP : mg "PromisedTrip" = some (.ref (ga K "PromisedTrip"))
  kP : PySem.W.kitOne K (.ref (trC K)) (.ref (ga K "PromisedTrip")) = some false
  con : ∃ u, Con K (trC K) "MOST_EDITS" (.int 60) u
  oB : OexC K (btC K)
  gB : mg "BadText" = some (.ref (btC K))
  iB : ∃ f fd, PySem.W.findIn K (.ref (btC K)) "__init__" = some (some (.ref f)) ∧ PySem.W.typeIn K (.ref f) = some (.type "function") ∧ Fun K "__init__" "BadText.__init__" (inClass (top 24) 0) f fd
  rf : ReadF K mg (btC K) (ga K "TripError") (ga K "BadRoad") (ga K "BadStarts") (ga K "TooLong")
theorem said {h : Heap} (X : K.In h) (Gn : h.Ns mainGlobals mg) (c : SaysK fsH fnH K) : Said K mg where
    G := { len := free_ok X Gn (c.fact 0 rfl), tuple := free_ok X Gn (c.fact 1 rfl), list := free_ok X Gn (c.fact 2 rfl), int := free_ok X Gn (c.fact 3 rfl), bool := free_ok X Gn (c.fact 4 rfl), str := free_ok X Gn (c.fact 5 rfl), isinstance := free_ok X Gn (c.fact 6 rfl), all := free_ok X Gn (c.fact 7 rfl), sum := free_ok X Gn (c.fact 8 rfl), abs := free_ok X Gn (c.fact 9 rfl), max := free_ok X Gn (c.fact 10 rfl), min := free_ok X Gn (c.fact 11 rfl), sorted := free_ok X Gn (c.fact 12 rfl), repr := free_ok X Gn (c.fact 13 rfl), enumerate := free_ok X Gn (c.fact 14 rfl), zip := free_ok X Gn (c.fact 15 rfl), range := free_ok X Gn (c.fact 16 rfl), MAX_TICKS := int_ok X Gn (c.fact 18 rfl), MAX_STAGES := int_ok X Gn (c.fact 19 rfl), MAX_BIKES := int_ok X Gn (c.fact 20 rfl), MAX_PEOPLE := int_ok X Gn (c.fact 21 rfl), MAX_START := int_ok X Gn (c.fact 22 rfl), MAX_EDITS := int_ok X Gn (c.fact 23 rfl), LONGEST := int_ok X Gn (c.fact 24 rfl), MANY_WORDS := int_ok X Gn (c.fact 25 rfl), FIGURES := str_ok X Gn (c.fact 26 rfl), COMMA := str_ok X Gn (c.fact 27 rfl), SLASH := str_ok X Gn (c.fact 28 rfl), MIDDLE := str_ok X Gn (c.fact 29 rfl) }
    d_is_number := by obtain ⟨fd, F⟩ := c.def_ 0 (d := dG "is_number" 29) rfl; exact ⟨_, fd, He5.fun_of (st := topH 29) F, (glo_ok X Gn (c.fact 30 rfl))⟩
    d_are_ticks := by obtain ⟨fd, F⟩ := c.def_ 1 (d := dG "are_ticks" 30) rfl; exact ⟨_, fd, He5.fun_of (st := topH 30) F, (glo_ok X Gn (c.fact 31 rfl))⟩
    d_road_error := by obtain ⟨fd, F⟩ := c.def_ 2 (d := dG "road_error" 31) rfl; exact ⟨_, fd, He5.fun_of (st := topH 31) F, (glo_ok X Gn (c.fact 32 rfl))⟩
    d_is_road := by obtain ⟨fd, F⟩ := c.def_ 3 (d := dG "is_road" 32) rfl; exact ⟨_, fd, He5.fun_of (st := topH 32) F, (glo_ok X Gn (c.fact 33 rfl))⟩
    d_counts_of := by obtain ⟨fd, F⟩ := c.def_ 4 (d := dG "counts_of" 33) rfl; exact ⟨_, fd, He5.fun_of (st := topH 33) F, (glo_ok X Gn (c.fact 34 rfl))⟩
    d_are_starts := by obtain ⟨fd, F⟩ := c.def_ 5 (d := dG "are_starts" 35) rfl; exact ⟨_, fd, He5.fun_of (st := topH 35) F, (glo_ok X Gn (c.fact 35 rfl))⟩
    d_leaves_of := by obtain ⟨fd, F⟩ := c.def_ 6 (d := dG "leaves_of" 36) rfl; exact ⟨_, fd, He5.fun_of (st := topH 36) F, (glo_ok X Gn (c.fact 36 rfl))⟩
    d_stages_of := by obtain ⟨fd, F⟩ := c.def_ 7 (d := dG "stages_of" 37) rfl; exact ⟨_, fd, He5.fun_of (st := topH 37) F, (glo_ok X Gn (c.fact 37 rfl))⟩
    d_ticks_of := by obtain ⟨fd, F⟩ := c.def_ 8 (d := dG "ticks_of" 38) rfl; exact ⟨_, fd, He5.fun_of (st := topH 38) F, (glo_ok X Gn (c.fact 38 rfl))⟩
    d_finish_of := by obtain ⟨fd, F⟩ := c.def_ 9 (d := dG "finish_of" 39) rfl; exact ⟨_, fd, He5.fun_of (st := topH 39) F, (glo_ok X Gn (c.fact 39 rfl))⟩
    d_latest_people := by obtain ⟨fd, F⟩ := c.def_ 10 (d := dG "latest_people" 44) rfl; exact ⟨_, fd, He5.fun_of (st := topH 44) F, (glo_ok X Gn (c.fact 40 rfl))⟩
    d_rule_plan := by obtain ⟨fd, F⟩ := c.def_ 11 (d := dG "rule_plan" 45) rfl; exact ⟨_, fd, He5.fun_of (st := topH 45) F, (glo_ok X Gn (c.fact 41 rfl))⟩
    d_least_finish := by obtain ⟨fd, F⟩ := c.def_ 12 (d := dG "least_finish" 46) rfl; exact ⟨_, fd, He5.fun_of (st := topH 46) F, (glo_ok X Gn (c.fact 42 rfl))⟩
    d_parse_number := by obtain ⟨fd, F⟩ := c.def_ 13 (d := dG "parse_number" 54) rfl; exact ⟨_, fd, He5.fun_of (st := topH 54) F, (glo_ok X Gn (c.fact 43 rfl))⟩
    d_parse_numbers := by obtain ⟨fd, F⟩ := c.def_ 14 (d := dG "parse_numbers" 55) rfl; exact ⟨_, fd, He5.fun_of (st := topH 55) F, (glo_ok X Gn (c.fact 44 rfl))⟩
    d_parse_ticks := by obtain ⟨fd, F⟩ := c.def_ 15 (d := dG "parse_ticks" 56) rfl; exact ⟨_, fd, He5.fun_of (st := topH 56) F, (glo_ok X Gn (c.fact 45 rfl))⟩
    d_parse_bikes := by obtain ⟨fd, F⟩ := c.def_ 16 (d := dG "parse_bikes" 57) rfl; exact ⟨_, fd, He5.fun_of (st := topH 57) F, (glo_ok X Gn (c.fact 46 rfl))⟩
    d_parse_starts := by obtain ⟨fd, F⟩ := c.def_ 17 (d := dG "parse_starts" 58) rfl; exact ⟨_, fd, He5.fun_of (st := topH 58) F, (glo_ok X Gn (c.fact 47 rfl))⟩
    d_parse_part := by obtain ⟨fd, F⟩ := c.def_ 18 (d := dG "parse_part" 59) rfl; exact ⟨_, fd, He5.fun_of (st := topH 59) F, (glo_ok X Gn (c.fact 48 rfl))⟩
    d_parse_trip := by obtain ⟨fd, F⟩ := c.def_ 19 (d := dG "parse_trip" 60) rfl; exact ⟨_, fd, He5.fun_of (st := topH 60) F, (glo_ok X Gn (c.fact 49 rfl))⟩
    d_is_within := by obtain ⟨fd, F⟩ := c.def_ 20 (d := dG "is_within" 62) rfl; exact ⟨_, fd, He5.fun_of (st := topH 62) F, (glo_ok X Gn (c.fact 50 rfl))⟩
    d_with_person := by obtain ⟨fd, F⟩ := c.def_ 21 (d := dG "with_person" 63) rfl; exact ⟨_, fd, He5.fun_of (st := topH 63) F, (glo_ok X Gn (c.fact 51 rfl))⟩
    d_without_person := by obtain ⟨fd, F⟩ := c.def_ 22 (d := dG "without_person" 64) rfl; exact ⟨_, fd, He5.fun_of (st := topH 64) F, (glo_ok X Gn (c.fact 52 rfl))⟩
    d_law_deck := by obtain ⟨fd, F⟩ := c.def_ 23 (d := dG "_law_deck" 72) rfl; exact ⟨_, fd, He5.fun_of (st := topH 72) F, (glo_ok X Gn (c.fact 53 rfl))⟩
    d_law_draw := by obtain ⟨fd, F⟩ := c.def_ 24 (d := dG "_law_draw" 73) rfl; exact ⟨_, fd, He5.fun_of (st := topH 73) F, (glo_ok X Gn (c.fact 54 rfl))⟩
    d_law_road := by obtain ⟨fd, F⟩ := c.def_ 25 (d := dG "_law_road" 74) rfl; exact ⟨_, fd, He5.fun_of (st := topH 74) F, (glo_ok X Gn (c.fact 55 rfl))⟩
    d_law_starts := by obtain ⟨fd, F⟩ := c.def_ 26 (d := dG "_law_starts" 75) rfl; exact ⟨_, fd, He5.fun_of (st := topH 75) F, (glo_ok X Gn (c.fact 56 rfl))⟩
    d_law_ruled := by obtain ⟨fd, F⟩ := c.def_ 27 (d := dG "_law_ruled" 76) rfl; exact ⟨_, fd, He5.fun_of (st := topH 76) F, (glo_ok X Gn (c.fact 57 rfl))⟩
    d_law_finish := by obtain ⟨fd, F⟩ := c.def_ 28 (d := dG "_law_finish" 77) rfl; exact ⟨_, fd, He5.fun_of (st := topH 77) F, (glo_ok X Gn (c.fact 58 rfl))⟩
    d_law_do := by obtain ⟨fd, F⟩ := c.def_ 29 (d := dG "_law_do" 78) rfl; exact ⟨_, fd, He5.fun_of (st := topH 78) F, (glo_ok X Gn (c.fact 59 rfl))⟩
    d_law_right := by obtain ⟨fd, F⟩ := c.def_ 30 (d := dG "_law_right" 79) rfl; exact ⟨_, fd, He5.fun_of (st := topH 79) F, (glo_ok X Gn (c.fact 60 rfl))⟩
    d_law_number := by obtain ⟨fd, F⟩ := c.def_ 31 (d := dG "_law_number" 80) rfl; exact ⟨_, fd, He5.fun_of (st := topH 80) F, (glo_ok X Gn (c.fact 61 rfl))⟩
    d_law_numbers := by obtain ⟨fd, F⟩ := c.def_ 32 (d := dG "_law_numbers" 81) rfl; exact ⟨_, fd, He5.fun_of (st := topH 81) F, (glo_ok X Gn (c.fact 62 rfl))⟩
    d_law_ticks := by obtain ⟨fd, F⟩ := c.def_ 33 (d := dG "_law_ticks" 82) rfl; exact ⟨_, fd, He5.fun_of (st := topH 82) F, (glo_ok X Gn (c.fact 63 rfl))⟩
    d_law_due := by obtain ⟨fd, F⟩ := c.def_ 34 (d := dG "_law_due" 83) rfl; exact ⟨_, fd, He5.fun_of (st := topH 83) F, (glo_ok X Gn (c.fact 64 rfl))⟩
    d_law_text := by obtain ⟨fd, F⟩ := c.def_ 35 (d := dG "_law_text" 84) rfl; exact ⟨_, fd, He5.fun_of (st := topH 84) F, (glo_ok X Gn (c.fact 65 rfl))⟩
    d_law_read := by obtain ⟨fd, F⟩ := c.def_ 36 (d := dG "_law_read" 85) rfl; exact ⟨_, fd, He5.fun_of (st := topH 85) F, (glo_ok X Gn (c.fact 66 rfl))⟩
    d_law_edits_right := by obtain ⟨fd, F⟩ := c.def_ 37 (d := dG "_law_edits_right" 86) rfl; exact ⟨_, fd, He5.fun_of (st := topH 86) F, (glo_ok X Gn (c.fact 67 rfl))⟩
    d_law := by obtain ⟨fd, F⟩ := c.def_ 38 (d := dG "law" 87) rfl; exact ⟨_, fd, He5.fun_of (st := topH 87) F, (glo_ok X Gn (c.fact 68 rfl))⟩
    tc := ⟨cls_ok (c.fact 77 rfl), noat_ok (c.fact 78 rfl), noat_ok (c.fact 79 rfl), noat_ok (c.fact 80 rfl), noat_ok (c.fact 81 rfl)⟩
    m_own_key := by obtain ⟨fd, F⟩ := c.def_ 39 (d := dM "own_key" "Trip.own_key" 6 []) rfl; exact ⟨_, fd, He5.fun_of (st := inClass (topH 69) 6) F, meth_ok (c.fact 82 rfl)⟩
    m_accept := by obtain ⟨fd, F⟩ := c.def_ 40 (d := dM "accept" "Trip.accept" 7 []) rfl; exact ⟨_, fd, He5.fun_of (st := inClass (topH 69) 7) F, meth_ok (c.fact 83 rfl)⟩
    m_len := by obtain ⟨fd, F⟩ := c.def_ 41 (d := dM "__len__" "Trip.__len__" 8 []) rfl; exact ⟨_, fd, He5.fun_of (st := inClass (topH 69) 8) F, meth_ok (c.fact 84 rfl)⟩
    m_eq := by obtain ⟨fd, F⟩ := c.def_ 42 (d := dM "__eq__" "Trip.__eq__" 9 []) rfl; exact ⟨_, fd, He5.fun_of (st := inClass (topH 69) 9) F, meth_ok (c.fact 85 rfl)⟩
    m_str := by obtain ⟨fd, F⟩ := c.def_ 43 (d := dM "__str__" "Trip.__str__" 10 []) rfl; exact ⟨_, fd, He5.fun_of (st := inClass (topH 69) 10) F, meth_ok (c.fact 86 rfl)⟩
    m_require_idle := by obtain ⟨fd, F⟩ := c.def_ 44 (d := dM "require_idle" "Trip.require_idle" 11 []) rfl; exact ⟨_, fd, He5.fun_of (st := inClass (topH 69) 11) F, meth_ok (c.fact 87 rfl)⟩
    m_state_after := by obtain ⟨fd, F⟩ := c.def_ 45 (d := dM "state_after" "Trip.state_after" 12 []) rfl; exact ⟨_, fd, He5.fun_of (st := inClass (topH 69) 12) F, meth_ok (c.fact 88 rfl)⟩
    m_perform := by obtain ⟨fd, F⟩ := c.def_ 46 (d := dM "perform" "Trip.perform" 13 []) rfl; exact ⟨_, fd, He5.fun_of (st := inClass (topH 69) 13) F, meth_ok (c.fact 89 rfl)⟩
    m_come := by obtain ⟨fd, F⟩ := c.def_ 47 (d := dM "come" "Trip.come" 14 []) rfl; exact ⟨_, fd, He5.fun_of (st := inClass (topH 69) 14) F, meth_ok (c.fact 90 rfl)⟩
    m_leave := by obtain ⟨fd, F⟩ := c.def_ 48 (d := dM "leave" "Trip.leave" 15 []) rfl; exact ⟨_, fd, He5.fun_of (st := inClass (topH 69) 15) F, meth_ok (c.fact 91 rfl)⟩
    m_undo := by obtain ⟨fd, F⟩ := c.def_ 49 (d := dM "undo" "Trip.undo" 18 []) rfl; exact ⟨_, fd, He5.fun_of (st := inClass (topH 69) 18) F, meth_ok (c.fact 92 rfl)⟩
    m_state_at := by obtain ⟨fd, F⟩ := c.def_ 50 (d := dM "state_at" "Trip.state_at" 21 []) rfl; exact ⟨_, fd, He5.fun_of (st := inClass (topH 69) 21) F, meth_ok (c.fact 93 rfl)⟩
    m_state := by obtain ⟨fd, F⟩ := c.def_ 51 (d := dM "state" "Trip.state" 22 [("version", .non)]) rfl; exact ⟨_, fd, F, He5.fun_of (st := inClass (topH 69) 22) F, meth_ok (c.fact 94 rfl)⟩
    m_edits := by obtain ⟨fd, F⟩ := c.def_ 52 (d := dM "edits" "Trip.edits" 25 []) rfl; exact ⟨_, fd, He5.fun_of (st := inClass (topH 69) 25) F, meth_ok (c.fact 95 rfl)⟩
    init := by obtain ⟨fd, F⟩ := c.def_ 53 (d := dM "__init__" "Trip.__init__" 1 []) rfl; exact ⟨_, fd, He5.fun_of (st := inClass (topH 69) 1) F, mkr_ok (c.fact 96 rfl)⟩
    p_road := by obtain ⟨fd, F⟩ := c.def_ 54 (d := dP "road" "Trip.road" 3) rfl; exact ⟨_, _, fd, propB_ok (c.fact 108 rfl), He5.fun_of (st := inClass (topH 69) 3) F⟩
    p_starts := by obtain ⟨fd, F⟩ := c.def_ 55 (d := dP "starts" "Trip.starts" 4) rfl; exact ⟨_, _, fd, propB_ok (c.fact 109 rfl), He5.fun_of (st := inClass (topH 69) 4) F⟩
    p_finish := by obtain ⟨fd, F⟩ := c.def_ 56 (d := dP "finish" "Trip.finish" 5) rfl; exact ⟨_, _, fd, propB_ok (c.fact 110 rfl), He5.fun_of (st := inClass (topH 69) 5) F⟩
    read := by obtain ⟨fd, F⟩ := c.def_ 57 (d := dR) rfl; exact ⟨_, _, _, fd, ⟨(c.fact 111 rfl), eqO_ok (c.fact 112 rfl)⟩, He5.cmet_of (c.fact 113 rfl) (c.fact 114 rfl), He5.fun_of (st := inClass (topH 69) 2) F⟩
    oN := by obtain ⟨h1, h2, h3, h4⟩ := exc_ok (c.fact 97 rfl); exact ⟨(glo_ok X Gn (c.fact 76 rfl)), h1, h2, h3, h4⟩
    exN := exm_ok (c.fact 98 rfl)
    ti := ⟨(glo_ok X Gn (c.fact 69 rfl)), eqO_ok (c.fact 100 rfl), eqO_ok (c.fact 101 rfl), of_decide_eq_true (c.fact 102 rfl), of_decide_eq_true (c.fact 103 rfl), of_decide_eq_true (c.fact 104 rfl), of_decide_eq_true (c.fact 105 rfl)⟩
    gP := (glo_ok X Gn (c.fact 70 rfl))
    kP := of_decide_eq_true (c.fact 106 rfl)
    con := conB_ok (c.fact 107 rfl)
    oB := ⟨oexB_ok (c.fact 115 rfl), eqO_ok (c.fact 116 rfl), of_decide_eq_true (c.fact 117 rfl), of_decide_eq_true (c.fact 118 rfl), (c.fact 119 rfl)⟩
    gB := (glo_ok X Gn (c.fact 71 rfl))
    iB := by obtain ⟨fd, F⟩ := c.def_ 58 (d := dB) rfl; exact ⟨_, fd, eqO_ok (c.fact 120 rfl), of_decide_eq_true (c.fact 121 rfl), He5.fun_of (st := inClass (topH 24) 0) F⟩
    rf := { gTE := (glo_ok X Gn (c.fact 72 rfl)), gBR := (glo_ok X Gn (c.fact 73 rfl)), gBS := (glo_ok X Gn (c.fact 74 rfl)), gTL := (glo_ok X Gn (c.fact 75 rfl)), ve := free_ok X Gn (c.fact 17 rfl), exm := exm_ok (c.fact 99 rfl), no := eqO_ok (c.fact 122 rfl), k1 := of_decide_eq_true (c.fact 128 rfl), k2 := of_decide_eq_true (c.fact 129 rfl), k3 := of_decide_eq_true (c.fact 130 rfl), exc := ⟨eqO_ok (c.fact 123 rfl), eqO_ok (c.fact 124 rfl), of_decide_eq_true (c.fact 117 rfl), (c.fact 125 rfl), eqO_ok (c.fact 126 rfl), eqO_ok (c.fact 101 rfl), of_decide_eq_true (c.fact 102 rfl), of_decide_eq_true (c.fact 127 rfl)⟩, xf := ⟨eqO_ok (c.fact 123 rfl), eqO_ok (c.fact 124 rfl), of_decide_eq_true (c.fact 117 rfl), (c.fact 125 rfl)⟩ }
/-- the law keeps its promise -/
theorem lawG (S : Said K mg) {f : Addr} {fd : FuncData} (Fn : Fun K "law" "law" (top 87) f fd) : FnG P w K mg base CX0 11 f fd ["_law_script"] (spLaw K) := by
  have G := S.G
  have tc := S.tc
  have c1 : Cal P w K mg base 1 "is_number" R_is_number := f_is_number G S.d_is_number
  have c2 : Cal P w K mg base 2 "are_ticks" R_are_ticks := f_are_ticks G c1 S.d_are_ticks
  have c3 : Cal P w K mg base 3 "road_error" R_road_error := f_road_error G c2 c1 S.d_road_error
  have c4 : Cal P w K mg base 4 "is_road" R_is_road := f_is_road G c3 S.d_is_road
  have c5 : Cal P w K mg base 1 "counts_of" R_counts_of := f_counts_of G S.d_counts_of
  have c6 : Cal P w K mg base 2 "are_starts" R_are_starts := f_are_starts G c1 S.d_are_starts
  have c7 : Cal P w K mg base 1 "latest_people" R_latest_people := f_latest_people G S.d_latest_people
  have c8 : Cal P w K mg base 1 "leaves_of" R_leaves_of := f_leaves_of G S.d_leaves_of
  have c9 : Cal P w K mg base 2 "rule_plan" R_rule_plan := f_rule_plan G c5 c7 S.d_rule_plan
  have c10 : Cal P w K mg base 1 "parse_number" R_parse_number := f_parse_number G S.d_parse_number
  have c11 : Cal P w K mg base 2 "parse_numbers" R_parse_numbers := f_parse_numbers G c10 S.d_parse_numbers
  have c12 : Cal P w K mg base 5 "parse_ticks" R_parse_ticks := f_parse_ticks G c11 c4 S.d_parse_ticks
  have c13 : Cal P w K mg base 5 "parse_bikes" R_parse_bikes := f_parse_bikes G c11 c4 S.d_parse_bikes
  have c14 : Cal P w K mg base 3 "parse_starts" R_parse_starts := f_parse_starts G c11 c6 S.d_parse_starts
  have c15 : Cal P w K mg base 6 "parse_part" R_parse_part := f_parse_part G c12 c13 c14 S.d_parse_part
  have l1 : Cal P w K mg base 1 "_law_number" R_law_number := f_law_number G S.d_law_number
  have l2 : Cal P w K mg base 2 "_law_numbers" R_law_numbers := f_law_numbers G l1 S.d_law_numbers
  have l3 : Cal P w K mg base 2 "_law_ticks" R_law_ticks := f_law_ticks G l1 S.d_law_ticks
  have l4 : Cal P w K mg base 3 "_law_due" R_law_due := f_law_due G l3 l2 S.d_law_due
  have l5 : Cal P w K mg base 1 "_law_ruled" R_law_ruled := f_law_ruled G S.d_law_ruled
  have l6 : Cal P w K mg base 2 "_law_finish" R_law_finish := f_law_finish G l5 S.d_law_finish
  have l7 : Cal P w K mg base 1 "_law_text" R_law_text := f_law_text G S.d_law_text
  have s1 : CalG P w K mg base 2 "stages_of" (spGen R_stages_of) := f_stages_of G c8 S.d_stages_of
  have s2 : Cal P w K mg base 4 "ticks_of" R_ticks_of := f_ticks_of G s1 S.d_ticks_of
  have s3 : Cal P w K mg base 5 "finish_of" R_finish_of := f_finish_of G s2 S.d_finish_of
  have s4 : Cal P w K mg base 6 "least_finish" R_least_finish := f_least_finish G c9 s3 S.d_least_finish
  -- BadText, parse_trip
  have cB : CalB P w K mg base (btC K) := by
    obtain ⟨fI, fdI, h1, h2, F⟩ := S.iB
    exact ⟨⟨fI, fdI, S.oB, h1, h2, ok_bad S.oB S.rf.no F, F.binds (fun _ _ _ _ _ _ us hl => match us, hl with | [_, _], _ => rfl)⟩, S.gB⟩
  have cT : CalX P w K mg base (L2.CX P w) 7 "parse_trip" (spPT (btC K)) := by
    obtain ⟨fT, fdT, F, mT⟩ := S.d_parse_trip
    exact ⟨fT, fdT, _, f_parse_trip G c15 cB F, mT, F.kp, F.binds (fun _ _ _ _ _ _ us hl => match us, hl with | [_], _ => rfl)⟩
  -- Trip
  have mLen := f_Trip___len__ (P := P) (w := w) (base := base) G tc S.m_len
  have mIdle := f_Trip_require_idle (P := P) (w := w) (base := base) G tc S.m_require_idle
  have mAcc := f_Trip_accept (P := P) (w := w) (base := base) G tc S.m_accept
  have mEd := f_Trip_edits (P := P) (w := w) (base := base) G tc S.m_edits
  have mKey := f_Trip_own_key (P := P) (w := w) (base := base) G tc S.m_own_key
  have i1 : Cal P w K mg base 1 "is_within" R_is_within := f_is_within G S.d_is_within
  have i2 : Cal P w K mg base 2 "with_person" R_with_person := f_with_person G i1 S.d_with_person
  have i3 : Cal P w K mg base 2 "without_person" R_without_person := f_without_person G i1 S.d_without_person
  have mAt := f_Trip_state_at (P := P) (w := w) (base := base) G tc i1 S.m_state_at
  have mSt := f_Trip_state tc mAt S.m_state
  have mAf := f_Trip_state_after (P := P) (w := w) (base := base) G tc i2 i3 S.m_state_after
  have mPe := f_Trip_perform G tc mAf mAcc s4 S.m_perform
  have mCo := f_Trip_come G tc mIdle mPe S.m_come
  have mLe := f_Trip_leave G tc mIdle mPe S.m_leave
  have mUn := f_Trip_undo G tc S.oN mIdle S.m_undo
  have mS := f_Trip___str__ (P := P) (w := w) (base := base) G tc S.m_str
  have cK : CalK P w K mg base (trC K) := by
    obtain ⟨fI, fdI, F, M⟩ := S.init
    exact ⟨fI, fdI, f_Trip_init G tc c3 c6 s4 F, M, F.binds (fun _ _ _ _ _ _ us hl => match us, hl with | [_, _, _], _ => rfl)⟩
  have cE : CalM P w K mg base (trC K) CX0 3 "__eq__" (L2.spEq (SameT (trC K))) := calM_of ["self", "other"] S.m_eq (fun _ _ _ _ _ _ us hl => match us, hl with | [_, _], _ => rfl) fun f fd F => f_Trip_eq G tc S.ti mKey F
  have cR : CalR P w K mg base (trC K) 9 "read" (spRd (trC K) (btC K)) := by
    obtain ⟨mc, p, g, fdR, h1, h2, F⟩ := S.read
    exact ⟨mc, p, g, fdR, _, h1, h2, f_Trip_read cT cK F, F.binds (fun _ _ _ _ _ _ us hl => match us, hl with | [_, _], _ => rfl)⟩
  have pR : CalP P w K mg base (trC K) 1 "road" (spT (trC K) R_road) := by
    obtain ⟨p, g, fdp, h, F⟩ := S.p_road
    exact ⟨p, g, fdp, _, h, f_Trip_road G tc F⟩
  have pS : CalP P w K mg base (trC K) 1 "starts" (spT (trC K) R_starts) := by
    obtain ⟨p, g, fdp, h, F⟩ := S.p_starts
    exact ⟨p, g, fdp, _, h, f_Trip_starts G tc F⟩
  have pF : CalP P w K mg base (trC K) 1 "finish" (spT (trC K) R_finish) := by
    obtain ⟨p, g, fdp, h, F⟩ := S.p_finish
    exact ⟨p, g, fdp, _, h, f_Trip_finish G tc F⟩
  -- the law's own
  have w1 := f_law_draw (P := P) (w := w) (base := base) G S.d_law_draw
  have w2 := f_law_deck (P := P) (w := w) (base := base) G S.d_law_deck
  have w3 := f_law_road G w1 S.d_law_road
  have w4 := f_law_starts G w1 S.d_law_starts
  have w5 := f_law_do G tc mCo mLe S.d_law_do
  have w6 := f_law_edits_right G tc S.oN S.exN w5 mSt mUn S.d_law_edits_right
  have w7 := f_law_read G S.ti S.rf cB cR S.d_law_read
  have w8 := f_law_right G tc l6 pR pS pF mSt mEd mLen mS S.d_law_right
  exact f_law G tc S.ti S.gP S.kP S.con w2 w1 w3 w4 l7 l4 w7 w8 w6 cK cE Fn
theorem law_binds {f : Addr} {fd : FuncData} (Fn : Fun K "law" "law" (top 87) f fd) (s : Shared) (u : Value) : BindsTo s fd ⟨[u], []⟩ [("_law_script", u)] := by
  obtain ⟨oc, od, kV, doc, pm, an, cdv, ct, osl, rfl, lk, hcd⟩ := Fn.ex
  exact .of_eq rfl
end
end K45
open PySem PySem.W PySem.Calls PyProof.Rows
theorem PySem.Challenge.cw_roadbikes_k45_whole_trips_read_holds : PySem.Challenge.rw_roadbikes_k45_whole_trips_read.Holds := by
  w_on; o_law
  refine HandSHeadRun.head_any (r := K45.rowH) (q := K45.qv) (H := K45.hkH) (ob := K45.obH) (M := 8000) (loose := K45.namesH) (d := HandSHeadRun.topDef K45.rowH.prog 87) (kwd := []) K45.obH_eq
    (by kernel_rfl) (fun t => by kernel_rfl) K45.runH (by kernel_rfl) (by kernel_rfl) (by kernel_rfl) (by rfl) (by first | assumption | decide +kernel) (by decide +kernel) ⟨rfl, rfl, rfl, rfl, rfl, by decide +kernel⟩ ?hw ?hc
  case hw => w_witness2
  case hc =>
    refine K45.walk_ofG (l := PySem.Challenge.rw_roadbikes_k45_whole_trips_read) (n := 63) (k := 11) (x := "_law_script") rfl (by decide) (by kernel_rfl) ⟨rfl, by decide, by decide⟩ ?F
    intro w mg fa h Y Gn hmg0
    obtain ⟨K, KX, c⟩ := Y
    have hmg : mg ("law" : PySem.Str) = some (.ref fa) := by
      have e : (HandSHeadRun.topDef K45.rowH.prog 87).name = ("law" : PySem.Str) := by kernel_rfl
      rw [← e]
      exact hmg0
    have S := K45.said KX Gn c
    obtain ⟨f, fd, Fn, m⟩ := S.d_law
    obtain rfl : f = fa := by
      rw [m] at hmg
      cases hmg
      rfl
    exact ⟨K, fd, K45.spLaw K, KX, K45.law_binds Fn, fun H a ns hl sq => ⟨a, ns, rfl, sq, Nat.le_trans hl (by decide), fun _ => rfl⟩, fun base kb gb => K45.lawG S Fn⟩
