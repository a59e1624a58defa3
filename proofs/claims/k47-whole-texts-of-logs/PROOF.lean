import PyProof.Rows.All
import Wide.All
import OpenK.AllK
import Wide.FinOn
import HandS.ForMost
import HandS.Property
import HandS.Star
import HandS.IsInst
import HandS.Defaults
import HandS.Style
import HandS.OwnEq
import HandS.Exc
import HandS.HeadHook4
import KE.KStateDown
import HandS.HeadHook1
import HandS.HeadHook2
import HandS.HeadHook3
import HandS.Head0
import HandS.Head1
import HandS.Head2
import HandS.HeadEnd
import HandS.SortRule
import KE.LtData
import HandS.Conv
import HandS.Deep
import KE.GoesEnum
import KE.DataCmp
import HandS.TupAny
import HandS.Strs
import HandS.Codes
import PyProof.InstNe
import KE.KFmtOwn
import HandS.RaiseMore
import HandS.Walk
import PySem.Challenge.RW_sealwatch_k47_whole_texts_of_logs
set_option Elab.async false
set_option linter.all false
set_option maxRecDepth 100000
set_option maxHeartbeats 4000000
/-! ### the text by places, the table FORMS -/
namespace Q47
open PySem L2
open PySem.W (Frag)
def topS (i : Nat) : Stmt := PySem.Challenge.pw_sealwatch_k47_whole_texts_of_logs.main.body.getD i (.Pass ⟨0, 0, 0, 0⟩)
def fmTab : List (Str × List Str) := [("give", ["number", "item", "number"]), ("put", ["number", "item", "number"]), ("take", ["number", "item", "number"]), ("seal", ["number", "number", "number"]), ("break", ["number", "number"]), ("at", ["item", "place"]), ("bare", ["number"]), ("in", ["number", "items"]), ("gone", ["number"]), ("not", ["sight"]), ("gap", ["numbers"])]
end Q47
set_option maxHeartbeats 4000000
/-! ### the head's hook: names, defs, the table FORMS, the getters of properties -/
namespace Q47
open PySem PySem.Spec PyProof.Rows L2
open PySem.W (Frag)
/-- the property f of the class x: where it stands, its getter -/
def prA (K : Frag) (x f : Str) : Addr := match PySem.W.findIn K (.ref (He.ga K x)) f with
  | some (some (.ref p)) => p
  | _ => 0
def gtA (K : Frag) (x f : Str) : Addr := match PySem.W.recIn K (prA K x f) "property" with
  | some (.ref g :: _) => g
  | _ => 0
/-- what stands of a def at g -/
def fnA (K : Frag) (g : Addr) : He.FnW := match K.lookup g with
  | some ⟨_, _, .func fd, _⟩ => some (fd.name, fd.qualname, fd.params, fd.body, fd.scope, fd.globals, fd.closure, fd.builtins)
  | _ => none
def codB (K : Frag) (g : Addr) (q : Str) : Bool := match K.lookup g with
  | some ⟨_, _, .func fd, _⟩ => PySem.W.codeIn K fd.code q && He.dflB K fd.defaults []
  | _ => false
/-- a getter: its class, its name, its row -/
structure Gt where
  c : Str
  m : Str
  q : Str
  st : Stmt
def Gt.val (d : Gt) : He.FnW := some (d.m, d.q, defArgs d.st, .stmts (defBody d.st), defScope d.st, mainGlobals, [], builtinsNs)
def Gt.ok (K : Frag) (d : Gt) : Bool := He.eqO (PySem.W.findIn K (.ref (He.ga K d.c)) d.m) (some (some (.ref (prA K d.c d.m)))) && (He.eqO (PySem.W.specialIn K (.ref (prA K d.c d.m)) "__get__") (some (some (.builtin "property.__get__"))) && (decide (PySem.W.takesIn K (.ref (prA K d.c d.m)) = some true) && ((match PySem.W.recIn K (prA K d.c d.m) "property" with
  | some (.ref g :: _) => decide (g = gtA K d.c d.m)
  | _ => false) && (PySem.W.keepIn K (.ref (gtA K d.c d.m)) && codB K (gtA K d.c d.m) d.q))))
theorem fun_at {K : Frag} {g : Addr} {nm q : Str} {st : Stmt} (e : fnA K g = some (nm, q, defArgs st, .stmts (defBody st), defScope st, mainGlobals, [], builtinsNs)) (c : codB K g q = true) (kp : PySem.W.keepIn K (.ref g) = true) : ∃ fd, FunD K nm q (defArgs st) (defBody st) (defScope st) [] [] g fd := by
  unfold codB at c
  unfold fnA at e
  cases lk : K.lookup g with
  | none =>
    rw [lk] at c
    cases c
  | some o =>
    obtain ⟨o1, o2, o3, o4⟩ := o
    rw [lk] at c e
    cases o3 with
    | func fd =>
      obtain ⟨m1, m2, m3, m4, m5, m6, m7, m8, m9, m10, m11, m12, m13, m14, m15⟩ := fd
      have e2 : (some (m1, m2, m3, m4, m5, m6, m7, m15) : He.FnW) = some (nm, q, defArgs st, .stmts (defBody st), defScope st, mainGlobals, [], builtinsNs) := e
      simp only [Option.some.injEq, Prod.mk.injEq] at e2
      obtain ⟨h1, h2, h3, h4, h5, h6, h7, h8⟩ := e2
      subst h1 h2 h3 h4 h5 h6 h7 h8
      obtain ⟨c1, c2⟩ := He.ba (show (PySem.W.codeIn K m13 _ && He.dflB K m8 []) = true from c)
      exact ⟨_, ⟨o1, o2, m8, m9, m10, m11, m12, m13, m14, o4, rfl, lk, c1, He.dflB_ok c2, .inl rfl⟩, kp⟩
    | _ => cases c
theorem Gt.prop {K : Frag} {d : Gt} (e : fnA K (gtA K d.c d.m) = d.val) (c : d.ok K = true) : ∃ p g fd, PropOf K (He.ga K d.c) d.m p g ∧ FunD K d.m d.q (defArgs d.st) (defBody d.st) (defScope d.st) [] [] g fd := by
  obtain ⟨c1, c⟩ := He.ba c
  obtain ⟨c2, c⟩ := He.ba c
  obtain ⟨c3, c⟩ := He.ba c
  obtain ⟨c4, c⟩ := He.ba c
  obtain ⟨c5, c6⟩ := He.ba c
  obtain ⟨fd, F⟩ := fun_at e c6 c5
  refine ⟨prA K d.c d.m, gtA K d.c d.m, fd, ⟨He.eqO_ok c1, He.eqO_ok c2, of_decide_eq_true c3, ?_⟩, F⟩
  cases h : PySem.W.recIn K (prA K d.c d.m) "property" with
  | none => rw [h] at c4; cases c4
  | some l =>
    rw [h] at c4
    cases l with
    | nil => cases c4
    | cons v r =>
      cases v with
      | ref g =>
        have : g = gtA K d.c d.m := of_decide_eq_true c4
        rw [this]
        exact ⟨r, rfl⟩
      | _ => cases c4
/-! the Bool facts -/
def tpA (K : Frag) (a : Addr) (fs : List Str) : Bool := match K.lookup a with
  | some ⟨.type c, none, .seq its _, _⟩ => decide (c = "tuple") && (decide (its.size ≤ sizeLine) && He.relAll (fs.map V.str) its.toList)
  | _ => false
theorem tpA_ok {K : Frag} {a : Addr} {fs : List Str} (c : tpA K a fs = true) : (∀ H, SqT K H a (fs.map V.str)) ∧ ∃ o, K.lookup a = some o ∧ o.cls = .type "tuple" ∧ o.dict = none := by
  unfold tpA at c
  cases lk : K.lookup a with
  | none =>
    rw [lk] at c
    cases c
  | some o =>
    obtain ⟨o1, o2, o3, o4⟩ := o
    rw [lk] at c
    cases o1 with
    | type n =>
      cases o2 with
      | none =>
        cases o3 with
        | seq its m =>
          obtain ⟨c1, c2⟩ := He.ba c
          obtain ⟨c3, c4⟩ := He.ba c2
          have e : Value.type n = Value.type "tuple" := congrArg Value.type (of_decide_eq_true c1)
          exact ⟨fun H => .inr ⟨_, its, m, lk, e, rfl, of_decide_eq_true c3, He.relAll_ok c4⟩, _, rfl, e, rfl⟩
        | _ => cases c
      | some d => cases o3 <;> cases c
    | _ => cases o2 <;> cases o3 <;> cases c
def fmA (K : Frag) (x : Str) : Addr := match PySem.W.nsIn K (He.ga K "FORMS") x with
  | some (some (.ref a)) => a
  | _ => 0
def fmB (K : Frag) : Bool := fmTab.all fun e => He.eqO (PySem.W.nsIn K (He.ga K "FORMS") e.1) (some (some (.ref (fmA K e.1)))) && tpA K (fmA K e.1) e.2
def icB (K : Frag) (x : Str) : Bool := (He.Fa.cls x).ok K && (He.eqO (PySem.W.findIn K (.ref (He.ga K x)) "__class__") (some (some (.builtin "object.__class__"))) && (He.eqO (PySem.W.specialIn K (.builtin "object.__class__") "__get__") (some (some (.builtin "getset_descriptor.__get__"))) &&
  (decide (PySem.W.takesIn K (.builtin "object.__class__") = some true) && (decide (PySem.W.mroIn K (He.ga K x) (.type "object") = some true) && decide (PySem.W.kitOne K (.ref (He.ga K x)) (.ref (He.ga K x)) = some true)))))
theorem icB_ok {K : Frag} {x : Str} (c : icB K x = true) : C8.InsC K (He.ga K x) := by
  obtain ⟨c1, c⟩ := He.ba c
  obtain ⟨c2, c⟩ := He.ba c
  obtain ⟨c3, c⟩ := He.ba c
  obtain ⟨c4, c⟩ := He.ba c
  obtain ⟨c5, c6⟩ := He.ba c
  exact ⟨He.cls_ok c1, He.eqO_ok c2, He.eqO_ok c3, of_decide_eq_true c4, of_decide_eq_true c5, of_decide_eq_true c6⟩
/-! the hook -/
/-- the dict at a: what its values name -/
def dvG (g : Addr → Option Obj) (a : Addr) : List Addr := match g a with
  | some ⟨_, _, .dict es _, _⟩ => es.toList.flatMap fun e => He.refV e.val
  | _ => []
/-- what a def, a property at a names -/
def fcG (g : Addr → Option Obj) (a : Addr) : List Addr := match g a with
  | some ⟨_, _, .func fd, _⟩ => He.refV fd.code
  | _ => []
def prG (g : Addr → Option Obj) (a : Addr) : List Addr := match g a with
  | some ⟨_, _, .func fd, _⟩ => He.refV fd.code
  | some ⟨_, _, .fields vs, _⟩ => vs.toList.flatMap fun v => match v with
    | .ref b => b :: fcG g b
    | _ => []
  | _ => []
/-- what an object of the module names, as far as the facts look -/
def kdG (g : Addr → Option Obj) (a : Addr) : List Addr := match g a with
  | some ⟨_, _, .func fd, _⟩ => He.refV fd.code
  | some ⟨_, _, .cls cd, _⟩ => cd.ns :: (dvG g cd.ns).flatMap fun b => b :: prG g b
  | some ⟨_, _, .dict es _, _⟩ => es.toList.flatMap fun e => He.refV e.val
  | _ => []
def asK (g : Addr → Option Obj) (l : List Addr) : List Addr := mainGlobals :: (l ++ l.flatMap (kdG g))
abbrev AlP : Type := He.AlT × List He.FnW × Bool
def obsP (fa : List He.Fa) (fn : List He.DefD) (ts : List He.Tab) (gs : List Gt) (ex : Frag → Bool) (K : Frag) : AlP := (He.obsT fa fn ts K, gs.map (fun d => fnA K (gtA K d.c d.m)), gs.all (fun d => d.ok K) && ex K)
def valP (fn : List He.DefD) (ts : List He.Tab) (gs : List Gt) (w : World) : AlP := (He.valT fn ts w, gs.map Gt.val, true)
def obsPG (n : Nat) (fa : List He.Fa) (fn : List He.DefD) (ts : List He.Tab) (gs : List Gt) (ex : Frag → Bool) (g : Addr → Option Obj) : AlP := obsP fa fn ts gs ex (He.frG g (asK g (dvG g mainGlobals)))
def hookP (n : Nat) (fa : List He.Fa) (fn : List He.DefD) (ts : List He.Tab) (gs : List Gt) (ex : Frag → Bool) : PySem.W.Hook where
  α := AlP
  obs := fun s => obsPG n fa fn ts gs ex s.heap.get?
  val := fun w => valP fn ts gs w
  says := fun w h => ∃ K : Frag, K.In h ∧ obsP fa fn ts gs ex K = valP fn ts gs w
  of := fun _ _ e => ⟨_, He.frG_in, e⟩
  keeps := fun _ _ _ ⟨K, hK, c⟩ k => ⟨K, PySem.W.Frag.In.keeps hK k, c⟩
theorem obsPG_eq {n : Nat} {fa : List He.Fa} {fn : List He.DefD} {ts : List He.Tab} {gs : List Gt} {ex : Frag → Bool} {g : Addr → Option Obj} {s : Shared} (h : ∀ a, g a = s.heap.get? a) : obsPG n fa fn ts gs ex g = (hookP n fa fn ts gs ex).obs s := by
  have e : g = s.heap.get? := funext h
  rw [e] <;> rfl
theorem says_t {fa : List He.Fa} {fn : List He.DefD} {ts : List He.Tab} {gs : List Gt} {ex : Frag → Bool} {w : World} {K : Frag} (c : obsP fa fn ts gs ex K = valP fn ts gs w) : He.SaysT fa fn ts w K := congrArg (fun z : AlP => z.1) c
theorem says_ex {fa : List He.Fa} {fn : List He.DefD} {ts : List He.Tab} {gs : List Gt} {ex : Frag → Bool} {w : World} {K : Frag} (c : obsP fa fn ts gs ex K = valP fn ts gs w) : ex K = true := (He.ba (congrArg (fun z : AlP => z.2.2) c)).2
theorem says_gt {fa : List He.Fa} {fn : List He.DefD} {ts : List He.Tab} {gs : List Gt} {ex : Frag → Bool} {w : World} {K : Frag} (c : obsP fa fn ts gs ex K = valP fn ts gs w) {d : Gt} (i : Nat) (h : gs[i]? = some d := by rfl) : ∃ p g fd, PropOf K (He.ga K d.c) d.m p g ∧ FunD K d.m d.q (defArgs d.st) (defBody d.st) (defScope d.st) [] [] g fd := by
  have c1 : gs.all (fun d => d.ok K) = true := (He.ba (congrArg (fun z : AlP => z.2.2) c)).1
  have c2 : gs.map (fun d => fnA K (gtA K d.c d.m)) = gs.map Gt.val := congrArg (fun z : AlP => z.2.1) c
  have e2 : (gs.map fun d => fnA K (gtA K d.c d.m))[i]? = (gs.map Gt.val)[i]? := by rw [c2]
  rw [List.getElem?_map, List.getElem?_map, h] at e2
  exact Gt.prop (Option.some.inj e2) (List.all_eq_true.mp c1 d (List.mem_of_getElem? h))
end Q47
set_option maxHeartbeats 4000000
/-! ### the facts: what the top has written, read off the hook (printed by gentx.py) -/
namespace Q47
open PySem PySem.Spec PyProof.Rows L2
open PySem.W (Frag)
def fa0 : List He.Fa := [.free "len", .free "int", .free "range", .free "list", .free "tuple", .free "str", .free "isinstance", .free "sorted", .free "max", .free "enumerate", .free "bool", .free "dict"]
def fa1 : List He.Fa := [.str "BOX" "box", .str "BREAK" "break", .str "DIGITS" "0123456789", .str "GAP" "gap", .str "GIVE" "give", .str "GONE" "gone", .str "HAND" "hand", .str "HANDS" "hands", .str "LOG" "log", .str "PUT" "put", .str "SEAL" "seal", .str "SEAL_ON" "seal"]
def fa2 : List He.Fa := [.str "TAKE" "take", .str "THING" "thing", .int "MAX_BOXES" 3, .int "MAX_HANDS" 4, .int "MAX_ROWS" 30, .int "MAX_SEALS" 3, .int "MAX_THINGS" 4, .glo "is_number", .glo "validate_hands", .glo "validate_hand", .glo "validate_box", .glo "validate_seal"]
def fa3 : List He.Fa := [.glo "validate_item", .glo "validate_movable", .glo "validate_deed", .glo "validate_sight", .glo "validate_contents", .glo "validate_row", .glo "words_of", .glo "house_rows", .glo "format_log", .glo "is_number_word", .glo "lines_of", .glo "read_house"]
def fa4 : List He.Fa := [.glo "read_row", .glo "parse_log", .glo "_law_mix", .glo "_law_next", .glo "_law_alike", .glo "_law_place", .glo "_law_moved", .glo "_law_lid", .glo "_law_inside", .glo "_law_items", .glo "_law_drawn", .glo "_law_house"]
def fa5 : List He.Fa := [.glo "_law_may", .glo "_law_done", .glo "_law_known", .glo "_law_true", .glo "_law_sight", .glo "_law_rows", .glo "_law_words", .glo "_law_lines", .glo "law", .glo "House", .glo "Log", .glo "Line"]
def fa6 : List He.Fa := [.glo "DEEDS", .glo "PARTS", .glo "ROWS", .glo "SIGHTS", .glo "FORMS", .cls "House", .mkr "House", .noat "House" "hand_count", .noat "House" "box_places", .noat "House" "thing_places", .noat "House" "seal_places", .meth "House" "__init__"]
def fa7 : List He.Fa := [.meth "House" "validate_places", .meth "House" "is_place", .meth "House" "__contains__", .meth "House" "__eq__", .cls "Log", .mkr "Log", .noat "Log" "own_house", .noat "Log" "own_rows", .meth "Log" "__init__", .meth "Log" "__eq__", .cls "Line", .mkr "Line"]
def fa8 : List He.Fa := [.noat "Line" "number", .noat "Line" "words", .noat "Line" "at", .meth "Line" "__init__", .meth "Line" "is_over", .meth "Line" "take_word", .meth "Line" "take_number", .meth "Line" "take_pair", .meth "Line" "take_many", .meth "Line" "take_part", .meth "Line" "take_row", .meth "Line" "end"]
def fa : List He.Fa := fa0 ++ fa1 ++ fa2 ++ fa3 ++ fa4 ++ fa5 ++ fa6 ++ fa7 ++ fa8
def dd_is_number : He.DefD := ⟨("is_number", none), "is_number", "is_number", defArgs (topS 22), defBody (topS 22), defScope (topS 22), [], []⟩
def dd_validate_hands : He.DefD := ⟨("validate_hands", none), "validate_hands", "validate_hands", defArgs (topS 24), defBody (topS 24), defScope (topS 24), [], []⟩
def dd_validate_hand : He.DefD := ⟨("validate_hand", none), "validate_hand", "validate_hand", defArgs (topS 32), defBody (topS 32), defScope (topS 32), [], []⟩
def dd_validate_box : He.DefD := ⟨("validate_box", none), "validate_box", "validate_box", defArgs (topS 33), defBody (topS 33), defScope (topS 33), [], []⟩
def dd_validate_seal : He.DefD := ⟨("validate_seal", none), "validate_seal", "validate_seal", defArgs (topS 34), defBody (topS 34), defScope (topS 34), [], []⟩
def dd_validate_item : He.DefD := ⟨("validate_item", none), "validate_item", "validate_item", defArgs (topS 35), defBody (topS 35), defScope (topS 35), [], []⟩
def dd_validate_movable : He.DefD := ⟨("validate_movable", none), "validate_movable", "validate_movable", defArgs (topS 36), defBody (topS 36), defScope (topS 36), [], []⟩
def dd_validate_deed : He.DefD := ⟨("validate_deed", none), "validate_deed", "validate_deed", defArgs (topS 37), defBody (topS 37), defScope (topS 37), [], []⟩
def dd_validate_sight : He.DefD := ⟨("validate_sight", none), "validate_sight", "validate_sight", defArgs (topS 38), defBody (topS 38), defScope (topS 38), [], []⟩
def dd_validate_contents : He.DefD := ⟨("validate_contents", none), "validate_contents", "validate_contents", defArgs (topS 39), defBody (topS 39), defScope (topS 39), [], []⟩
def dd_validate_row : He.DefD := ⟨("validate_row", none), "validate_row", "validate_row", defArgs (topS 40), defBody (topS 40), defScope (topS 40), [], []⟩
def dd_words_of : He.DefD := ⟨("words_of", none), "words_of", "words_of", defArgs (topS 53), defBody (topS 53), defScope (topS 53), [], []⟩
def dd_house_rows : He.DefD := ⟨("house_rows", none), "house_rows", "house_rows", defArgs (topS 54), defBody (topS 54), defScope (topS 54), [], []⟩
def dd_format_log : He.DefD := ⟨("format_log", none), "format_log", "format_log", defArgs (topS 55), defBody (topS 55), defScope (topS 55), [], []⟩
def dd_is_number_word : He.DefD := ⟨("is_number_word", none), "is_number_word", "is_number_word", defArgs (topS 56), defBody (topS 56), defScope (topS 56), [], []⟩
def dd_lines_of : He.DefD := ⟨("lines_of", none), "lines_of", "lines_of", defArgs (topS 58), defBody (topS 58), defScope (topS 58), [], []⟩
def dd_read_house : He.DefD := ⟨("read_house", none), "read_house", "read_house", defArgs (topS 59), defBody (topS 59), defScope (topS 59), [], []⟩
def dd_read_row : He.DefD := ⟨("read_row", none), "read_row", "read_row", defArgs (topS 60), defBody (topS 60), defScope (topS 60), [], []⟩
def dd_parse_log : He.DefD := ⟨("parse_log", none), "parse_log", "parse_log", defArgs (topS 61), defBody (topS 61), defScope (topS 61), [], []⟩
def dd__law_mix : He.DefD := ⟨("_law_mix", none), "_law_mix", "_law_mix", defArgs (topS 63), defBody (topS 63), defScope (topS 63), [], []⟩
def dd__law_next : He.DefD := ⟨("_law_next", none), "_law_next", "_law_next", defArgs (topS 64), defBody (topS 64), defScope (topS 64), [], []⟩
def dd__law_alike : He.DefD := ⟨("_law_alike", none), "_law_alike", "_law_alike", defArgs (topS 65), defBody (topS 65), defScope (topS 65), [], []⟩
def dd__law_place : He.DefD := ⟨("_law_place", none), "_law_place", "_law_place", defArgs (topS 66), defBody (topS 66), defScope (topS 66), [], []⟩
def dd__law_moved : He.DefD := ⟨("_law_moved", none), "_law_moved", "_law_moved", defArgs (topS 67), defBody (topS 67), defScope (topS 67), [], []⟩
def dd__law_lid : He.DefD := ⟨("_law_lid", none), "_law_lid", "_law_lid", defArgs (topS 68), defBody (topS 68), defScope (topS 68), [], []⟩
def dd__law_inside : He.DefD := ⟨("_law_inside", none), "_law_inside", "_law_inside", defArgs (topS 69), defBody (topS 69), defScope (topS 69), [], []⟩
def dd__law_items : He.DefD := ⟨("_law_items", none), "_law_items", "_law_items", defArgs (topS 70), defBody (topS 70), defScope (topS 70), [], []⟩
def dd__law_drawn : He.DefD := ⟨("_law_drawn", none), "_law_drawn", "_law_drawn", defArgs (topS 71), defBody (topS 71), defScope (topS 71), [], []⟩
def dd__law_house : He.DefD := ⟨("_law_house", none), "_law_house", "_law_house", defArgs (topS 72), defBody (topS 72), defScope (topS 72), [], []⟩
def dd__law_may : He.DefD := ⟨("_law_may", none), "_law_may", "_law_may", defArgs (topS 73), defBody (topS 73), defScope (topS 73), [], []⟩
def dd__law_done : He.DefD := ⟨("_law_done", none), "_law_done", "_law_done", defArgs (topS 74), defBody (topS 74), defScope (topS 74), [], []⟩
def dd__law_known : He.DefD := ⟨("_law_known", none), "_law_known", "_law_known", defArgs (topS 75), defBody (topS 75), defScope (topS 75), [], []⟩
def dd__law_true : He.DefD := ⟨("_law_true", none), "_law_true", "_law_true", defArgs (topS 76), defBody (topS 76), defScope (topS 76), [], []⟩
def dd__law_sight : He.DefD := ⟨("_law_sight", none), "_law_sight", "_law_sight", defArgs (topS 77), defBody (topS 77), defScope (topS 77), [], []⟩
def dd__law_rows : He.DefD := ⟨("_law_rows", none), "_law_rows", "_law_rows", defArgs (topS 78), defBody (topS 78), defScope (topS 78), [], []⟩
def dd__law_words : He.DefD := ⟨("_law_words", none), "_law_words", "_law_words", defArgs (topS 79), defBody (topS 79), defScope (topS 79), [], []⟩
def dd__law_lines : He.DefD := ⟨("_law_lines", none), "_law_lines", "_law_lines", defArgs (topS 80), defBody (topS 80), defScope (topS 80), [], []⟩
def dd_law : He.DefD := ⟨("law", none), "law", "law", defArgs (topS 81), defBody (topS 81), defScope (topS 81), [], []⟩
def dd_House___init__ : He.DefD := ⟨("House", some "__init__"), "__init__", "House.__init__", defArgs (inClass (topS 23) 0), defBody (inClass (topS 23) 0), defScope (inClass (topS 23) 0), [], []⟩
def dd_House_validate_places : He.DefD := ⟨("House", some "validate_places"), "validate_places", "House.validate_places", defArgs (inClass (topS 23) 1), defBody (inClass (topS 23) 1), defScope (inClass (topS 23) 1), [], []⟩
def dd_House_is_place : He.DefD := ⟨("House", some "is_place"), "is_place", "House.is_place", defArgs (inClass (topS 23) 2), defBody (inClass (topS 23) 2), defScope (inClass (topS 23) 2), [], []⟩
def dd_House___contains__ : He.DefD := ⟨("House", some "__contains__"), "__contains__", "House.__contains__", defArgs (inClass (topS 23) 9), defBody (inClass (topS 23) 9), defScope (inClass (topS 23) 9), [], []⟩
def dd_House___eq__ : He.DefD := ⟨("House", some "__eq__"), "__eq__", "House.__eq__", defArgs (inClass (topS 23) 10), defBody (inClass (topS 23) 10), defScope (inClass (topS 23) 10), [], []⟩
def dd_Log___init__ : He.DefD := ⟨("Log", some "__init__"), "__init__", "Log.__init__", defArgs (inClass (topS 44) 0), defBody (inClass (topS 44) 0), defScope (inClass (topS 44) 0), [], []⟩
def dd_Log___eq__ : He.DefD := ⟨("Log", some "__eq__"), "__eq__", "Log.__eq__", defArgs (inClass (topS 44) 9), defBody (inClass (topS 44) 9), defScope (inClass (topS 44) 9), [], []⟩
def dd_Line___init__ : He.DefD := ⟨("Line", some "__init__"), "__init__", "Line.__init__", defArgs (inClass (topS 57) 0), defBody (inClass (topS 57) 0), defScope (inClass (topS 57) 0), [], []⟩
def dd_Line_is_over : He.DefD := ⟨("Line", some "is_over"), "is_over", "Line.is_over", defArgs (inClass (topS 57) 2), defBody (inClass (topS 57) 2), defScope (inClass (topS 57) 2), [], []⟩
def dd_Line_take_word : He.DefD := ⟨("Line", some "take_word"), "take_word", "Line.take_word", defArgs (inClass (topS 57) 3), defBody (inClass (topS 57) 3), defScope (inClass (topS 57) 3), [], []⟩
def dd_Line_take_number : He.DefD := ⟨("Line", some "take_number"), "take_number", "Line.take_number", defArgs (inClass (topS 57) 4), defBody (inClass (topS 57) 4), defScope (inClass (topS 57) 4), [], []⟩
def dd_Line_take_pair : He.DefD := ⟨("Line", some "take_pair"), "take_pair", "Line.take_pair", defArgs (inClass (topS 57) 5), defBody (inClass (topS 57) 5), defScope (inClass (topS 57) 5), [], []⟩
def dd_Line_take_many : He.DefD := ⟨("Line", some "take_many"), "take_many", "Line.take_many", defArgs (inClass (topS 57) 6), defBody (inClass (topS 57) 6), defScope (inClass (topS 57) 6), [], []⟩
def dd_Line_take_part : He.DefD := ⟨("Line", some "take_part"), "take_part", "Line.take_part", defArgs (inClass (topS 57) 7), defBody (inClass (topS 57) 7), defScope (inClass (topS 57) 7), [], []⟩
def dd_Line_take_row : He.DefD := ⟨("Line", some "take_row"), "take_row", "Line.take_row", defArgs (inClass (topS 57) 8), defBody (inClass (topS 57) 8), defScope (inClass (topS 57) 8), [], []⟩
def dd_Line_end : He.DefD := ⟨("Line", some "end"), "end", "Line.end", defArgs (inClass (topS 57) 9), defBody (inClass (topS 57) 9), defScope (inClass (topS 57) 9), [], []⟩
def fn : List He.DefD := [dd_is_number, dd_validate_hands, dd_validate_hand, dd_validate_box, dd_validate_seal, dd_validate_item, dd_validate_movable, dd_validate_deed, dd_validate_sight, dd_validate_contents, dd_validate_row, dd_words_of, dd_house_rows, dd_format_log, dd_is_number_word, dd_lines_of, dd_read_house, dd_read_row, dd_parse_log, dd__law_mix, dd__law_next, dd__law_alike, dd__law_place, dd__law_moved, dd__law_lid, dd__law_inside, dd__law_items, dd__law_drawn, dd__law_house, dd__law_may, dd__law_done, dd__law_known, dd__law_true, dd__law_sight, dd__law_rows, dd__law_words, dd__law_lines, dd_law, dd_House___init__, dd_House_validate_places, dd_House_is_place, dd_House___contains__, dd_House___eq__, dd_Log___init__, dd_Log___eq__, dd_Line___init__, dd_Line_is_over, dd_Line_take_word, dd_Line_take_number, dd_Line_take_pair, dd_Line_take_many, dd_Line_take_part, dd_Line_take_row, dd_Line_end]
def gg_House_hands : Gt := ⟨"House", "hands", "House.hands", inClass (topS 23) 3⟩
def gg_House_boxes : Gt := ⟨"House", "boxes", "House.boxes", inClass (topS 23) 4⟩
def gg_House_things : Gt := ⟨"House", "things", "House.things", inClass (topS 23) 5⟩
def gg_House_seals : Gt := ⟨"House", "seals", "House.seals", inClass (topS 23) 6⟩
def gg_House_state : Gt := ⟨"House", "state", "House.state", inClass (topS 23) 7⟩
def gg_Log_house : Gt := ⟨"Log", "house", "Log.house", inClass (topS 44) 1⟩
def gg_Log_rows : Gt := ⟨"Log", "rows", "Log.rows", inClass (topS 44) 2⟩
def gs : List Gt := [gg_House_hands, gg_House_boxes, gg_House_things, gg_House_seals, gg_House_state, gg_Log_house, gg_Log_rows]
def ts : List He.Tab := [(fun K => He.ga K "FORMS", fmTab.map (·.1))]
def exB (K : Frag) : Bool := icB K "House" && (icB K "Log" && (He.eqO (PySem.W.findIn K (.ref (He.ga K "Log")) "__ne__") (some (some (.builtin "object.__ne__"))) && (fmB K && (tpA K (He.ga K "DEEDS") ["break", "give", "put", "seal", "take"] && tpA K (He.ga K "PARTS") ["box", "thing", "seal", "log"] && tpA K (He.ga K "ROWS") ["give", "put", "take", "seal", "break", "at", "bare", "in", "gone", "not", "gap"] && tpA K (He.ga K "SIGHTS") ["at", "bare", "in", "gone"]))))
abbrev hk : PySem.W.Hook := hookP 6 fa fn ts gs exB
end Q47
set_option maxHeartbeats 0
/-! ### the run of the top -/
namespace Q47
open PySem PySem.W PySem.Calls PyProof.Rows
abbrev R : OpenRow := OpenLaw.row PySem.Challenge.rw_sealwatch_k47_whole_texts_of_logs
abbrev qv : Program := view R.prog [81]
def names0 : List PySem.Str := ["_wall", "WatchError", "InvalidHouse", "InvalidHands", "InvalidLog", "UnknownHand", "UnknownItem", "UnknownBox", "UnknownSeal", "InsideItself", "InvalidText", "BOX", "GONE", "HAND", "SEAL", "THING", "MAX_HANDS", "MAX_BOXES", "MAX_THINGS", "MAX_SEALS"]
def names1 : List PySem.Str := ["is_number", "House", "validate_hands", "BREAK", "GIVE", "PUT", "SEAL_ON", "TAKE", "DEEDS", "validate_hand", "validate_box", "validate_seal", "validate_item", "validate_movable", "validate_deed", "validate_sight", "validate_contents", "validate_row", "GAP", "MAX_ROWS"]
def names2 : List PySem.Str := ["Log", "HANDS", "LOG", "PARTS", "DIGITS", "SIGHTS", "ROWS", "FORMS", "words_of", "house_rows", "format_log", "is_number_word", "Line", "lines_of", "read_house", "read_row", "parse_log", "_law_mix", "_law_next", "_law_alike"]
def names3 : List PySem.Str := ["_law_place", "_law_moved", "_law_lid", "_law_inside", "_law_items", "_law_drawn", "_law_house", "_law_may", "_law_done", "_law_known", "_law_true", "_law_sight", "_law_rows", "_law_words", "_law_lines"]
def names : List PySem.Str := names0 ++ names1 ++ names2 ++ names3
def ob (s : PySem.W.SharedT) : AlP := obsPG 6 fa fn ts gs exB (HandSHeadRun.getT s)
theorem ob_eq (s : PySem.W.SharedT) : ob s = hk.obs s.abs := obsPG_eq (HandSHeadRun.getT_eq s)
theorem run_f (w : World) : HandSHeadRun.RunEq R qv hk ob 16000 names (w.withFollow "special-get-raises" false) := by
  intro os
  kernel_rfl
theorem run_t (w : World) : HandSHeadRun.RunEq R qv hk ob 16000 names (w.withFollow "special-get-raises" true) := by
  intro os
  kernel_rfl
theorem run (w : World) : HandSHeadRun.RunEq R qv hk ob 16000 names w := byRow2 "special-get-raises" (P := fun w => HandSHeadRun.RunEq R qv hk ob 16000 names w) run_f run_t w
end Q47
set_option maxHeartbeats 4000000
/-! ### data that never changes, and what a slot holds -/
namespace Q47
open PySem L2
open PySem.W (Frag)

mutual
/-- the value v is read as the datum d: None, bools, ints, texts and tuples of such -/
inductive Rt (K : Frag) (H : Hp) : V → PyData → Prop
  | non : Rt K H .non .none
  | bl (b : Bool) : Rt K H (.bl b) (.bool b)
  | int (i : Int) : Rt K H (.int i) (.int i)
  | str (x : Str) : Rt K H (.str x) (.str x)
  | tup {a : Addr} {xs : List V} {ds : List PyData} : SqT K H a xs → RtA K H xs ds → Rt K H (.ref a) (.tuple ds)
inductive RtA (K : Frag) (H : Hp) : List V → List PyData → Prop
  | nil : RtA K H [] []
  | cons {v : V} {vs : List V} {d : PyData} {ds : List PyData} : Rt K H v d → RtA K H vs ds → RtA K H (v :: vs) (d :: ds)
end
/-- what is no list and no dict of plain keys -/
def Fix : HO → Prop
  | .lst _ => False
  | .dK _ => False
  | _ => True
/-- all but lists and dicts is kept -/
def Kp (H H' : Hp) : Prop := ∀ a o, Fix o → H a = some o → H' a = some o
theorem Kp.refl (H : Hp) : Kp H H := fun _ _ _ h => h
theorem Kp.trans {H H1 H2 : Hp} (a : Kp H H1) (b : Kp H1 H2) : Kp H H2 := fun x o n h => b x o n (a x o n h)
theorem Kp.of_same {H H' : Hp} (s : Same H H') : Kp H H' := fun a o _ h => s a o h
theorem Kp.sqT {K : Frag} {H H' : Hp} {a : Addr} {xs : List V} (k : Kp H H') (h : SqT K H a xs) : SqT K H' a xs := by
  rcases h with (h | ⟨o, h⟩) | h
  · exact .inl (.inl (k _ _ trivial h))
  · exact .inl (.inr ⟨o, k _ _ trivial h⟩)
  · exact .inr h
section
variable {K : Frag} {H H' : Hp}
mutual
theorem Rt.keep (k : Kp H H') : ∀ {v : V} {d : PyData}, Rt K H v d → Rt K H' v d
  | _, _, .non => .non
  | _, _, .bl b => .bl b
  | _, _, .int i => .int i
  | _, _, .str x => .str x
  | _, _, .tup h r => .tup (k.sqT h) (RtA.keep k r)
theorem RtA.keep (k : Kp H H') : ∀ {vs : List V} {ds : List PyData}, RtA K H vs ds → RtA K H' vs ds
  | _, _, .nil => .nil
  | _, _, .cons h r => .cons (Rt.keep k h) (RtA.keep k r)
end
mutual
theorem Rt.dp : ∀ {v : V} {d : PyData}, Rt K H v d → Dp K H v d
  | _, _, .non => .non
  | _, _, .bl b => .bl b
  | _, _, .int i => .int i
  | _, _, .str x => .str x
  | _, _, .tup h r => .tup h (RtA.dp r)
theorem RtA.dp : ∀ {vs : List V} {ds : List PyData}, RtA K H vs ds → DpAll K H vs ds
  | _, _, .nil => .nil
  | _, _, .cons h r => .cons (Rt.dp h) (RtA.dp r)
end
theorem RtA.length : ∀ {vs : List V} {ds : List PyData}, RtA K H vs ds → vs.length = ds.length
  | _, _, .nil => rfl
  | _, _, .cons _ r => by rw [List.length_cons, List.length_cons, RtA.length r]
theorem RtA.get : ∀ {vs : List V} {ds : List PyData} {i : Nat} {d : PyData}, RtA K H vs ds → ds[i]? = some d → ∃ v, vs[i]? = some v ∧ Rt K H v d
  | _, _, i, d, .nil, e => by simp at e
  | _, _, 0, d, .cons h r, e => by
    simp at e
    subst e
    exact ⟨_, rfl, h⟩
  | _, _, i + 1, d, .cons h r, e => by
    obtain ⟨v, h1, h2⟩ := RtA.get (i := i) r (by simpa using e)
    exact ⟨v, by simpa using h1, h2⟩
theorem RtA.getv : ∀ {vs : List V} {ds : List PyData} {i : Nat} {v : V}, RtA K H vs ds → vs[i]? = some v → ∃ d, ds[i]? = some d ∧ Rt K H v d
  | _, _, i, d, .nil, e => by simp at e
  | _, _, 0, d, .cons h r, e => by
    simp at e
    subst e
    exact ⟨_, rfl, h⟩
  | _, _, i + 1, d, .cons h r, e => by
    obtain ⟨v, h1, h2⟩ := RtA.getv (i := i) r (by simpa using e)
    exact ⟨v, by simpa using h1, h2⟩
theorem RtA.append : ∀ {vs ws : List V} {ds es : List PyData}, RtA K H vs ds → RtA K H ws es → RtA K H (vs ++ ws) (ds ++ es)
  | _, _, _, _, .nil, s => s
  | _, _, _, _, .cons h r, s => .cons h (RtA.append r s)
theorem RtA.drop : ∀ {vs : List V} {ds : List PyData} (n : Nat), RtA K H vs ds → RtA K H (vs.drop n) (ds.drop n)
  | _, _, 0, r => r
  | _, _, _ + 1, .nil => .nil
  | _, _, n + 1, .cons _ r => RtA.drop n r
theorem RtA.take : ∀ {vs : List V} {ds : List PyData} (n : Nat), RtA K H vs ds → RtA K H (vs.take n) (ds.take n)
  | _, _, 0, _ => .nil
  | _, _, _ + 1, .nil => .nil
  | _, _, n + 1, .cons h r => .cons h (RtA.take n r)
theorem RtA.strs : ∀ {xs : List Str}, RtA K H (xs.map V.str) (xs.map PyData.str)
  | [] => .nil
  | x :: r => .cons (.str x) RtA.strs
theorem RtA.of_strs : ∀ {vs : List V} {xs : List Str}, RtA K H vs (xs.map PyData.str) → vs = xs.map V.str
  | [], [], _ => rfl
  | _ :: _, [], h => by cases h
  | [], _ :: _, h => by cases h
  | v :: vs, x :: xs, h => by
    cases h with
    | cons h r =>
      cases h
      rw [RtA.of_strs r]
      rfl
theorem RtA.of_ints : ∀ {vs : List V} {xs : List Int}, RtA K H vs (xs.map PyData.int) → vs = xs.map V.int
  | [], [], _ => rfl
  | _ :: _, [], h => by cases h
  | [], _ :: _, h => by cases h
  | v :: vs, x :: xs, h => by
    cases h with
    | cons h r =>
      cases h
      rw [RtA.of_ints r]
      rfl
end

/-! ### a world: the lists that may change (M), what stood when the def began (O), what is known of them (S) -/
structure Wd where
  M : Addr → Prop
  O : Addr → Prop
  S : Hp → Prop
  lst : ∀ H a, S H → M a → ∃ xs, H a = some (.lst xs)
  tr : ∀ H a, S H → O a → H a ≠ none
  mono : ∀ H H', S H → (∀ a o, M a ∨ O a → H a = some o → H' a = some o) → S H'
/-- all but the world's lists is kept -/
def Ro (W : Wd) (H H' : Hp) : Prop := ∀ a o, ¬ W.M a → H a = some o → H' a = some o
/-- of what stood all but the world's lists is kept, and all that is no list -/
structure Rs (W : Wd) (H H' : Hp) : Prop where
  old : ∀ a o, W.O a → ¬ W.M a → H a = some o → H' a = some o
  kp : Kp H H'
section
variable {K : Frag} {W : Wd} {H H' H1 H2 : Hp}
theorem Ro.refl : Ro W H H := fun _ _ _ h => h
theorem Ro.trans (a : Ro W H H1) (b : Ro W H1 H2) : Ro W H H2 := fun x o n h => b x o n (a x o n h)
theorem Ro.kp (r : Ro W H H') (s : W.S H) : Kp H H' := fun a o n h => by
  by_cases m : W.M a
  · obtain ⟨xs, e⟩ := W.lst H a s m
    rw [h] at e
    cases e
    exact n.elim
  · exact r a o m h
theorem Ro.rs (r : Ro W H H') (s : W.S H) : Rs W H H' := ⟨fun a o _ m h => r a o m h, r.kp s⟩
theorem Rs.refl : Rs W H H := ⟨fun _ _ _ _ h => h, Kp.refl H⟩
theorem Rs.trans (a : Rs W H H1) (b : Rs W H1 H2) : Rs W H H2 := ⟨fun x o n m h => b.old x o n m (a.old x o n m h), a.kp.trans b.kp⟩
theorem Ro.of_same (s : Same H H') : Ro W H H' := fun a o _ h => s a o h
theorem Wd.same (s : W.S H) (e : Same H H') : W.S H' := W.mono H H' s fun a o _ h => e a o h
theorem Wd.freshM (s : W.S H) {p : Addr} (h : H p = none) : ¬ W.M p := fun m => by
  obtain ⟨xs, e⟩ := W.lst H p s m
  rw [h] at e
  cases e
theorem Wd.freshO (s : W.S H) {p : Addr} (h : H p = none) : ¬ W.O p := fun m => W.tr H p s m h
theorem same_new {p : Addr} {o : HO} (h : H p = none) : Same H (upd H p o) := fun a u e => by
  rw [upd_ne (ne_of_none e h)]
  exact e
end
/-- nothing may change -/
def W0 : Wd := ⟨fun _ => False, fun _ => False, fun _ => True, fun _ _ _ m => m.elim, fun _ _ _ m => m.elim, fun _ _ _ _ => trivial⟩
/-- the world as a def that is called at H has it -/
def Wd.at (W : Wd) (H : Hp) : Wd where
  M := W.M
  O := fun a => H a ≠ none
  S := fun H' => W.S H' ∧ Ro W H H' ∧ W.S H
  lst := fun H' a s m => W.lst H' a s.1 m
  tr := fun H' a s o => by
    by_cases m : W.M a
    · obtain ⟨xs, e⟩ := W.lst H' a s.1 m
      rw [e]
      exact fun z => by cases z
    · cases q : H a with
      | none => exact absurd q o
      | some u =>
        rw [s.2.1 a u m q]
        exact fun z => by cases z
  mono := fun H1 H2 s k => by
    have r : Ro W H H2 := fun a o m h => k a o (.inr (by rw [h]; exact fun z => by cases z)) (s.2.1 a o m h)
    refine ⟨W.mono H1 H2 s.1 fun a o mo h => ?_, r, s.2.2⟩
    rcases mo with m | m
    · exact k a o (.inl m) h
    · refine k a o (.inr ?_) h
      exact W.tr H a s.2.2 m

/-- what a slot or a value is: data, a list (where it stands, what it holds), a value told as it is, a value of which something is true -/
inductive A where
  | d (x : PyData)
  | o (p : Addr) (xs : List PyData)
  | v (x : V)
  | p (P : V → Hp → Prop)
def Has (K : Frag) (W : Wd) (H : Hp) (v : V) : A → Prop
  | .d x => Rt K H v x
  | .o p ds => v = .ref p ∧ ¬ W.M p ∧ ∃ vs, H p = some (.lst vs) ∧ RtA K H vs ds
  | .v x => v = x
  | .p P => ∀ H', Kp H H' → P v H'
theorem Has.keep {K : Frag} {W : Wd} {H H' : Hp} {v : V} {a : A} (s : W.S H) (r : Ro W H H') (h : Has K W H v a) : Has K W H' v a := by
  cases a with
  | d x => exact Rt.keep (r.kp s) h
  | o p ds =>
    obtain ⟨e, m, vs, hp, q⟩ := h
    exact ⟨e, m, vs, r _ _ m hp, RtA.keep (r.kp s) q⟩
  | v x => exact h
  | p P => exact fun H2 k => h H2 ((r.kp s).trans k)
inductive HasA (K : Frag) (W : Wd) (H : Hp) : List V → List A → Prop
  | nil : HasA K W H [] []
  | cons {v : V} {vs : List V} {a : A} {as : List A} : Has K W H v a → HasA K W H vs as → HasA K W H (v :: vs) (a :: as)
theorem HasA.keep {K : Frag} {W : Wd} {H H' : Hp} (s : W.S H) (r : Ro W H H') : ∀ {vs : List V} {as : List A}, HasA K W H vs as → HasA K W H' vs as
  | _, _, .nil => .nil
  | _, _, .cons h t => .cons (h.keep s r) (HasA.keep s r t)
theorem HasA.length {K : Frag} {W : Wd} {H : Hp} : ∀ {vs : List V} {as : List A}, HasA K W H vs as → vs.length = as.length
  | _, _, .nil => rfl
  | _, _, .cons _ t => by rw [List.length_cons, List.length_cons, HasA.length t]
theorem HasA.get {K : Frag} {W : Wd} {H : Hp} : ∀ {vs : List V} {as : List A} {i : Nat} {a : A}, HasA K W H vs as → as[i]? = some a → ∃ v, vs[i]? = some v ∧ Has K W H v a
  | _, _, i, a, .nil, e => by simp at e
  | _, _, 0, a, .cons h _, e => by
    simp at e
    subst e
    exact ⟨_, rfl, h⟩
  | _, _, i + 1, a, .cons _ t, e => by
    obtain ⟨v, h1, h2⟩ := HasA.get (i := i) t (by simpa using e)
    exact ⟨v, by simpa using h1, h2⟩
theorem HasA.data {K : Frag} {W : Wd} {H : Hp} : ∀ {vs : List V} {ds : List PyData}, HasA K W H vs (ds.map A.d) → RtA K H vs ds
  | _, [], .nil => .nil
  | _, _ :: _, .cons h t => .cons h (HasA.data t)
/-- the slots -/
abbrev Gm := List (Option A)
structure En (K : Frag) (W : Wd) (H : Hp) (σ : St) (Γ : Gm) : Prop where
  len : σ.length = Γ.length
  at_ : ∀ (i : Nat) (a : A), Γ[i]? = some (some a) → ∃ v, σ[i]? = some (some v) ∧ Has K W H v a
section
variable {K : Frag} {W : Wd} {H H' : Hp} {σ : St} {Γ : Gm}
theorem En.keep (s : W.S H) (r : Ro W H H') (e : En K W H σ Γ) : En K W H' σ Γ := ⟨e.len, fun i a h => let ⟨v, h1, h2⟩ := e.at_ i a h; ⟨v, h1, h2.keep s r⟩⟩
theorem En.set {v : V} {a : A} (e : En K W H σ Γ) (i : Nat) (h : Has K W H v a) : En K W H (σ.set i (some v)) (Γ.set i (some a)) := by
  refine ⟨by rw [List.length_set, List.length_set, e.len], fun j b hb => ?_⟩
  by_cases hij : i = j
  · subst hij
    have hi : i < Γ.length := by
      have := (List.getElem?_eq_some_iff.mp hb).1
      rwa [List.length_set] at this
    rw [List.getElem?_set_self hi] at hb
    cases hb
    exact ⟨v, List.getElem?_set_self (by rw [e.len]; exact hi), h⟩
  · rw [List.getElem?_set_ne hij] at hb
    obtain ⟨u, h1, h2⟩ := e.at_ j b hb
    exact ⟨u, by rw [List.getElem?_set_ne hij]; exact h1, h2⟩
/-- some slots forgotten -/
def wipeG (Γ : Gm) : List Nat → Gm
  | [] => Γ
  | v :: vs => (wipeG Γ vs).set v none
theorem En.setNone (e : En K W H σ Γ) (i : Nat) : En K W H (σ.set i none) (Γ.set i none) := by
  refine ⟨by rw [List.length_set, List.length_set, e.len], fun j b hb => ?_⟩
  by_cases hij : i = j
  · subst hij
    have hi : i < Γ.length := by
      have := (List.getElem?_eq_some_iff.mp hb).1
      rwa [List.length_set] at this
    rw [List.getElem?_set_self hi] at hb
    cases hb
  · rw [List.getElem?_set_ne hij] at hb
    obtain ⟨u, h1, h2⟩ := e.at_ j b hb
    exact ⟨u, by rw [List.getElem?_set_ne hij]; exact h1, h2⟩
theorem En.wipe (e : En K W H σ Γ) : ∀ vs : List Nat, En K W H (L2.wipe σ vs) (wipeG Γ vs)
  | [] => e
  | v :: vs => (En.wipe e vs).setNone v
/-- fewer slots known -/
theorem En.weak {Γ' : Gm} (e : En K W H σ Γ) (hl : Γ'.length = Γ.length) (h : ∀ (i : Nat) (a : A), Γ'[i]? = some (some a) → Γ[i]? = some (some a)) : En K W H σ Γ' := ⟨e.len.trans hl.symm, fun i a q => e.at_ i a (h i a q)⟩
end
theorem wipe_set {σ : St} {j : Nat} {x : Option V} : ∀ {vs : List Nat}, j ∈ vs → wipe (σ.set j x) vs = wipe σ vs
  | v :: vs, h => by
    unfold wipe
    by_cases hv : j ∈ vs
    · rw [wipe_set hv]
    · have e : j = v := by
        rcases List.mem_cons.mp h with e | e
        · exact e
        · exact absurd e hv
      subst e
      have q : ∀ ws : List Nat, j ∉ ws → wipe (σ.set j x) ws = (wipe σ ws).set j x := by
        intro ws
        induction ws with
        | nil => intro _; rfl
        | cons w ws ih =>
          intro hn
          unfold wipe
          rw [ih (fun z => hn (List.mem_cons_of_mem _ z)), List.set_comm _ _ (fun z => hn (by rw [z]; exact List.mem_cons_self))]
      rw [q vs hv, List.set_set]
theorem wipe_wipe (σ : St) : ∀ vs : List Nat, wipe (wipe σ vs) vs = wipe σ vs
  | [] => rfl
  | v :: vs => by
    have q : ∀ ws : List Nat, ∀ τ : St, (wipe (τ.set v none) ws).set v none = (wipe τ ws).set v none := by
      intro ws
      induction ws with
      | nil => intro τ; unfold wipe; rw [List.set_set]
      | cons w ws ih =>
        intro τ
        unfold wipe
        by_cases e : v = w
        · subst e
          rw [List.set_set, List.set_set, ih]
        · rw [List.set_comm _ _ (Ne.symm e), ih, List.set_comm _ _ e]
    show (wipe ((wipe σ vs).set v none) vs).set v none = (wipe σ vs).set v none
    rw [q vs (wipe σ vs), wipe_wipe σ vs]
end Q47
set_option maxHeartbeats 4000000
/-! ### what an expression gives, slots told by data -/
namespace Q47
open PySem L2
open PySem.W (Frag)
/-- a list's address is none of those in the slots, nor an old one -/
structure New (W : Wd) (Γ : Gm) (p : Addr) : Prop where
  m : ¬ W.M p
  o : ¬ W.O p
  g : ∀ (i : Nat) q xs, Γ[i]? = some (some (.o q xs)) → p ≠ q
def ED (K : Frag) (W : Wd) (te : TE) (Γ : Gm) (κ : A → Prop) : Prop :=
  ∀ σ H (Q : VK), En K W H σ Γ → W.S H → (∀ v H' a, Ro W H H' → W.S H' → Has K W H' v a → κ a → Q v H') → te σ H Q
def EDA (K : Frag) (W : Wd) (ta : TA) (Γ : Gm) (κ : List A → Prop) : Prop :=
  ∀ σ H (Q : List V → Hp → Prop), En K W H σ Γ → W.S H → (∀ vs H' as, Ro W H H' → W.S H' → HasA K W H' vs as → κ as → Q vs H') → ta σ H Q
def TD (K : Frag) (W : Wd) (t : TT) (Γ : Gm) (κ : Bool → Prop) : Prop :=
  ∀ σ H (Q : Bool → Hp → Prop), En K W H σ Γ → W.S H → (∀ b H', Ro W H H' → W.S H' → κ b → Q b H') → t σ H Q
def RD (K : Frag) (W : Wd) (Γ : Gm) (r : R2) (x y : A) (κ : A → Prop) : Prop :=
  ∀ σ v u H (Q : VK), En K W H σ Γ → Has K W H v x → Has K W H u y → W.S H → (∀ z H' a, Ro W H H' → W.S H' → Has K W H' z a → κ a → Q z H') → r v u H Q
def CD (K : Frag) (W : Wd) (Γ : Gm) (r : List V → Hp → VK → Prop) (as : List A) (κ : A → Prop) : Prop :=
  ∀ σ vs H (Q : VK), En K W H σ Γ → HasA K W H vs as → W.S H → (∀ z H' a, Ro W H H' → W.S H' → Has K W H' z a → κ a → Q z H') → r vs H Q
section
variable {K : Frag} {W : Wd} {Γ : Gm} {κ : A → Prop} {ta tb te : TE} {t : TA}
theorem ED.mono {κ' : A → Prop} (h : ED K W te Γ κ) (k : ∀ a, κ a → κ' a) : ED K W te Γ κ' := fun σ H Q e s q => h σ H Q e s fun v H' a r s' ha ka => q v H' a r s' ha (k a ka)
theorem TD.mono {tt : TT} {κ κ' : Bool → Prop} (h : TD K W tt Γ κ) (k : ∀ a, κ a → κ' a) : TD K W tt Γ κ' := fun σ H Q e s q => h σ H Q e s fun b H' r s' ka => q b H' r s' (k b ka)
theorem ed_var {i : Nat} {a : A} (h : Γ[i]? = some (some a)) (k : κ a) : ED K W (tVar i) Γ κ := fun σ H Q e s q => by
  obtain ⟨v, h1, h2⟩ := e.at_ i a h
  exact ⟨v, h1, q v H a Ro.refl s h2 k⟩
theorem ed_int {i : Int} (k : κ (.d (.int i))) : ED K W (tC (.int i)) Γ κ := fun σ H Q e s q => q _ H (.d _) Ro.refl s (Rt.int i) k
theorem ed_bl {b : Bool} (k : κ (.d (.bool b))) : ED K W (tC (.bl b)) Γ κ := fun σ H Q e s q => q _ H (.d _) Ro.refl s (Rt.bl b) k
theorem ed_str {x : Str} (k : κ (.d (.str x))) : ED K W (tC (.str x)) Γ κ := fun σ H Q e s q => q _ H (.d _) Ro.refl s (Rt.str x) k
theorem ed_non (k : κ (.d .none)) : ED K W (tC .non) Γ κ := fun σ H Q e s q => q _ H (.d _) Ro.refl s Rt.non k
theorem ed_raw {v : V} (k : κ (.v v)) : ED K W (tC v) Γ κ := fun σ H Q e s q => q _ H (.v v) Ro.refl s rfl k
/-- a tuple of the module -/
theorem ed_ktup {a : Addr} {xs : List V} {ds : List PyData} (h : ∀ H, SqT K H a xs) (r : ∀ H, RtA K H xs ds) (k : κ (.d (.tuple ds))) : ED K W (tC (.ref a)) Γ κ := fun σ H Q e s q => q _ H (.d _) Ro.refl s (Rt.tup (h H) (r H)) k
theorem eda_nil {κ : List A → Prop} (k : κ []) : EDA K W tNil Γ κ := fun σ H Q e s q => q [] H [] Ro.refl s .nil k
theorem eda_cons {tr : TA} {κ : List A → Prop} (h : ED K W te Γ fun a => EDA K W tr Γ fun as => κ (a :: as)) : EDA K W (tCons te tr) Γ κ := fun σ H Q e s q =>
  h σ H _ e s fun v H1 a r1 s1 ha k1 => k1 σ H1 _ (e.keep s r1) s1 fun vs H2 as r2 s2 has k2 => q _ H2 _ (r1.trans r2) s2 (.cons (ha.keep s1 r2) has) k2
theorem ed_op {r : R2} (h : ED K W ta Γ fun x => ED K W tb Γ fun y => RD K W Γ r x y κ) : ED K W (tOp r ta tb) Γ κ := fun σ H Q e s q =>
  h σ H _ e s fun v H1 a r1 s1 ha k1 => k1 σ H1 _ (e.keep s r1) s1 fun u H2 b r2 s2 hb k2 =>
    k2 σ v u H2 Q (e.keep s (r1.trans r2)) (ha.keep s1 r2) hb s2 fun z H3 c r3 s3 hc k3 => q z H3 c ((r1.trans r2).trans r3) s3 hc k3
theorem ed_cb {r : List V → Hp → VK → Prop} (h : EDA K W t Γ fun as => CD K W Γ r as κ) : ED K W (tCB r t) Γ κ := fun σ H Q e s q =>
  h σ H _ e s fun vs H1 as r1 s1 has k1 => k1 σ vs H1 Q (e.keep s r1) has s1 fun z H2 c r2 s2 hc k2 => q z H2 c (r1.trans r2) s2 hc k2
/-! displays -/
theorem ed_tup (h : EDA K W t Γ fun as => ∃ ds : List PyData, as = ds.map A.d ∧ ds.length ≤ 100000 ∧ κ (.d (.tuple ds))) : ED K W (tTup t) Γ κ := fun σ H Q e s q =>
  h σ H _ e s fun vs H1 as r1 s1 has k1 => by
    obtain ⟨ds, rfl, hl, k⟩ := k1
    have hd := has.data
    refine ⟨Nat.le_trans (by rw [hd.length]; exact hl) (by decide), fun p hp => ?_⟩
    have sm := same_new (o := HO.tup vs) hp
    exact q _ _ (.d (.tuple ds)) (r1.trans (Ro.of_same sm)) (Wd.same s1 sm) (Rt.tup (SqT.of upd_same) (hd.keep (Kp.of_same sm))) k
/-- arguments that are data -/
def EDD (K : Frag) (W : Wd) (ta : TA) (Γ : Gm) (κ : List PyData → Prop) : Prop := EDA K W ta Γ fun as => ∃ ds : List PyData, as = ds.map A.d ∧ κ ds
theorem edd_nil {κ : List PyData → Prop} (k : κ []) : EDD K W tNil Γ κ := eda_nil ⟨[], rfl, k⟩
theorem edd_cons {tr : TA} {κ : List PyData → Prop} (h : ED K W te Γ fun a => ∃ d, a = .d d ∧ EDD K W tr Γ fun ds => κ (d :: ds)) : EDD K W (tCons te tr) Γ κ := fun σ H Q e s q =>
  h σ H _ e s fun v H1 a r1 s1 ha k1 => by
    obtain ⟨d, rfl, k1⟩ := k1
    exact k1 σ H1 _ (e.keep s r1) s1 fun vs H2 as r2 s2 has k2 => by
      obtain ⟨ds, rfl, k2⟩ := k2
      exact q _ H2 _ (r1.trans r2) s2 (.cons (ha.keep s1 r2) has) ⟨d :: ds, rfl, k2⟩
theorem ed_tupD (h : EDD K W t Γ fun ds => ds.length ≤ 100000 ∧ κ (.d (.tuple ds))) : ED K W (tTup t) Γ κ := ed_tup fun σ H Q e s q => h σ H Q e s fun vs H' as r s' ha k => q vs H' as r s' ha k
theorem new_of {σ : St} {H H1 : Hp} {p : Addr} (e : En K W H σ Γ) (s : W.S H) (r : Ro W H H1) (s1 : W.S H1) (hp : H1 p = none) : New W Γ p := ⟨Wd.freshM s1 hp, Wd.freshO s1 hp, fun i q xs h z => by
    obtain ⟨v, h1, _, m, vs, h2, _⟩ := e.at_ i _ h
    have h3 := r _ _ m h2
    rw [← z, hp] at h3
    cases h3⟩
theorem ed_lst (h : EDA K W t Γ fun as => ∃ ds : List PyData, as = ds.map A.d ∧ ds.length ≤ 100000 ∧ ∀ p, New W Γ p → κ (.o p ds)) : ED K W (tLst t) Γ κ := fun σ H Q e s q =>
  h σ H _ e s fun vs H1 as r1 s1 has k1 => by
    obtain ⟨ds, rfl, hl, k⟩ := k1
    have hd := has.data
    refine ⟨Nat.le_trans (by rw [hd.length]; exact hl) (by decide), fun p hp => ?_⟩
    have sm := same_new (o := HO.lst vs) hp
    exact q _ _ (.o p ds) (r1.trans (Ro.of_same sm)) (Wd.same s1 sm) ⟨rfl, Wd.freshM s1 hp, vs, upd_same, hd.keep (Kp.of_same sm)⟩ (k p (new_of e s r1 s1 hp))
theorem ed_lstD (h : EDD K W t Γ fun ds => ds.length ≤ 100000 ∧ ∀ p, New W Γ p → κ (.o p ds)) : ED K W (tLst t) Γ κ := ed_lst fun σ H Q e s q => h σ H Q e s fun vs H' as r s' ha k => q vs H' as r s' ha k
/-! operators -/
theorem rd_I0 {g : Int → Int → Int} {i j : Int} (k : κ (.d (.int (g i j)))) : RD K W Γ (rI0 fun a b => .int (g a b)) (.d (.int i)) (.d (.int j)) κ := fun σ v u H Q e hv hu s q => by
  cases hv
  cases hu
  exact ⟨i, j, rfl, rfl, q _ H (.d _) Ro.refl s (Rt.int _) k⟩
theorem rd_B0 {g : Int → Int → Bool} {i j : Int} (k : κ (.d (.bool (g i j)))) : RD K W Γ (rI0 fun a b => .bl (g a b)) (.d (.int i)) (.d (.int j)) κ := fun σ v u H Q e hv hu s q => by
  cases hv
  cases hu
  exact ⟨i, j, rfl, rfl, q _ H (.d _) Ro.refl s (Rt.bl _) k⟩
theorem rd_I {C : Int → Int → Prop} {g : Int → Int → Int} {i j : Int} (hc : C i j) (k : κ (.d (.int (g i j)))) : RD K W Γ (rI C fun a b => .int (g a b)) (.d (.int i)) (.d (.int j)) κ := fun σ v u H Q e hv hu s q => by
  cases hv
  cases hu
  exact ⟨i, j, rfl, rfl, hc, q _ H (.d _) Ro.refl s (Rt.int _) k⟩
theorem rd_eq {x y : PyData} (hx : SeqAt.shaped x = true) (hy : SeqAt.shaped y = true) (k : κ (.d (.bool (PyData.eqv x y)))) : RD K W Γ (rEqD K) (.d x) (.d y) κ := fun σ v u H Q e hv hu s q =>
  ⟨x, y, hv.dp, hu.dp, hx, hy, q _ H (.d _) Ro.refl s (Rt.bl _) k⟩
theorem rd_ne {x y : PyData} (hx : SeqAt.shaped x = true) (hy : SeqAt.shaped y = true) (k : κ (.d (.bool (!PyData.eqv x y)))) : RD K W Γ (rNeD K) (.d x) (.d y) κ := fun σ v u H Q e hv hu s q =>
  ⟨x, y, hv.dp, hu.dp, hx, hy, q _ H (.d _) Ro.refl s (Rt.bl _) k⟩
theorem rd_eqL {x y : List PyData} {p q' : Addr} (hx : SeqAt.shaped (.list x) = true) (hy : SeqAt.shaped (.list y) = true) (k : κ (.d (.bool (PyData.eqv (.list x) (.list y))))) : RD K W Γ (rEqD K) (.o p x) (.o q' y) κ := fun σ v u H Q e hv hu s q => by
  obtain ⟨rfl, _, vs, h1, h2⟩ := hv
  obtain ⟨rfl, _, us, h3, h4⟩ := hu
  exact ⟨.list x, .list y, .lst (SqL.of h1) h2.dp, .lst (SqL.of h3) h4.dp, hx, hy, q _ H (.d _) Ro.refl s (Rt.bl _) k⟩
theorem rd_neL {x y : List PyData} {p q' : Addr} (hx : SeqAt.shaped (.list x) = true) (hy : SeqAt.shaped (.list y) = true) (k : κ (.d (.bool (!PyData.eqv (.list x) (.list y))))) : RD K W Γ (rNeD K) (.o p x) (.o q' y) κ := fun σ v u H Q e hv hu s q => by
  obtain ⟨rfl, _, vs, h1, h2⟩ := hv
  obtain ⟨rfl, _, us, h3, h4⟩ := hu
  exact ⟨.list x, .list y, .lst (SqL.of h1) h2.dp, .lst (SqL.of h3) h4.dp, hx, hy, q _ H (.d _) Ro.refl s (Rt.bl _) k⟩
/-- == of scalars by op_eq -/
theorem rd_eqS {x y : V} {dx dy : PyData} (hs : scal x y = true) (hx : ∀ H v, Rt K H v dx → v = x) (hy : ∀ H v, Rt K H v dy → v = y) (k : κ (.d (.bool (decide (x = y))))) : RD K W Γ rEq (.d dx) (.d dy) κ := fun σ v u H Q e hv hu s q => by
  have e1 := hx H v hv
  have e2 := hy H u hu
  subst e1 e2
  exact ⟨hs, q _ H (.d _) Ro.refl s (Rt.bl _) k⟩
theorem ix_nat {α : Type} {xs : List α} {i : Nat} {v : α} (h : xs[i]? = some v) : atI xs (i : Int) = some v := atI_nat h
theorem rd_ixT {ds : List PyData} {i : Nat} {d : PyData} (h : ds[i]? = some d) (k : κ (.d d)) : RD K W Γ (rIxT K) (.d (.tuple ds)) (.d (.int (i : Int))) κ := fun σ v u H Q e hv hu s q => by
  cases hv with
  | tup hq hr =>
    cases hu
    obtain ⟨z, h1, h2⟩ := hr.get h
    exact ⟨_, _, _, z, rfl, rfl, hq, atI_nat h1, q z H (.d d) Ro.refl s h2 k⟩
theorem rd_ixTi {ds : List PyData} {i : Int} {d : PyData} (h0 : 0 ≤ i) (h : ds[i.toNat]? = some d) (k : κ (.d d)) : RD K W Γ (rIxT K) (.d (.tuple ds)) (.d (.int i)) κ := by
  obtain ⟨n, rfl⟩ := Int.eq_ofNat_of_zero_le h0
  exact rd_ixT h k
theorem rd_ixL {p : Addr} {ds : List PyData} {i : Nat} {d : PyData} (h : ds[i]? = some d) (k : κ (.d d)) : RD K W Γ (rIxL K) (.o p ds) (.d (.int (i : Int))) κ := fun σ v u H Q e hv hu s q => by
  obtain ⟨rfl, _, vs, h1, hr⟩ := hv
  cases hu
  obtain ⟨z, h3, h2⟩ := hr.get h
  exact ⟨_, _, _, z, rfl, rfl, SqL.of h1, atI_nat h3, q z H (.d d) Ro.refl s h2 k⟩
theorem rd_ixLi {p : Addr} {ds : List PyData} {i : Int} {d : PyData} (h0 : 0 ≤ i) (h : ds[i.toNat]? = some d) (k : κ (.d d)) : RD K W Γ (rIxL K) (.o p ds) (.d (.int i)) κ := by
  obtain ⟨n, rfl⟩ := Int.eq_ofNat_of_zero_le h0
  exact rd_ixL h k
theorem rd_cat {p p' : Addr} {xs ys : List PyData} (hl : xs.length + ys.length ≤ 100000) (k : ∀ q, New W Γ q → κ (.o q (xs ++ ys))) : RD K W Γ rCat (.o p xs) (.o p' ys) κ := fun σ v u H Q e hv hu s q => by
  obtain ⟨rfl, _, vs, h1, r1⟩ := hv
  obtain ⟨rfl, _, us, h2, r2⟩ := hu
  refine ⟨_, _, vs, us, rfl, rfl, h1, h2, Nat.le_trans (by rw [r1.length, r2.length]; exact hl) (by decide), fun p hp => ?_⟩
  have sm := same_new (o := HO.lst (vs ++ us)) hp
  exact q _ _ (.o p (xs ++ ys)) (Ro.of_same sm) (Wd.same s sm) ⟨rfl, Wd.freshM s hp, _, upd_same, (r1.append r2).keep (Kp.of_same sm)⟩ (k p (new_of e s Ro.refl s hp))
theorem rd_catT {xs ys : List PyData} (hx : xs ≠ []) (hy : ys ≠ []) (hl : xs.length + ys.length ≤ 100000) (k : κ (.d (.tuple (xs ++ ys)))) : RD K W Γ (rCatT K) (.d (.tuple xs)) (.d (.tuple ys)) κ := fun σ v u H Q e hv hu s q => by
  cases hv with
  | @tup a vs _ hq r1 =>
    cases hu with
    | @tup b us _ hq2 r2 =>
      have nz : ∀ {zs : List V} {ds : List PyData}, RtA K H zs ds → ds ≠ [] → zs ≠ [] := fun r n z => by
        subst z
        cases r
        exact n rfl
      refine ⟨_, _, vs, us, rfl, rfl, hq, hq2, nz r1 hx, Nat.le_trans (by rw [r1.length, r2.length]; exact hl) (by decide), fun z => absurd z (nz r2 hy), fun _ p hp => ?_⟩
      have sm := same_new (o := HO.tup (vs ++ us)) hp
      exact q _ _ (.d (.tuple (xs ++ ys))) (Ro.of_same sm) (Wd.same s sm) (Rt.tup (SqT.of upd_same) ((r1.append r2).keep (Kp.of_same sm))) k
theorem rd_str {x y : Str} (hl : x.length + y.length ≤ sizeLine) (k : κ (.d (.str (x ++ y)))) : RD K W Γ (fun x y H Q => ∃ i j, x = .str i ∧ y = .str j ∧ i.length + j.length ≤ sizeLine ∧ Q (.str (i ++ j)) H) (.d (.str x)) (.d (.str y)) κ := fun σ v u H Q e hv hu s q => by
  cases hv
  cases hu
  exact ⟨x, y, rfl, rfl, hl, q _ H (.d _) Ro.refl s (Rt.str _) k⟩
/-- a text in a tuple of texts -/
theorem flat_strs (xs : List Str) : (xs.map V.str).all flatV = true := by
  induction xs with
  | nil => rfl
  | cons x xs ih => rw [List.map_cons, List.all_cons, ih] <;> rfl
theorem inV_strs (x : Str) (xs : List Str) : inV (.str x) (xs.map V.str) = decide (x ∈ xs) := by
  unfold inV
  induction xs with
  | nil => rfl
  | cons y ys ih =>
    rw [List.map_cons, List.any_cons, ih]
    have e : eqV (.str y) (.str x) = decide (x = y) := by
      show (decide (y = x) : Bool) = decide (x = y)
      rw [Bool.eq_iff_iff]
      simp only [decide_eq_true_eq]
      exact ⟨Eq.symm, Eq.symm⟩
    rw [e, Bool.eq_iff_iff]
    simp only [Bool.or_eq_true, decide_eq_true_eq, List.mem_cons]
theorem rd_in {neg : Bool} {x : Str} {xs : List Str} (k : κ (.d (.bool (if neg then !decide (x ∈ xs) else decide (x ∈ xs))))) : RD K W Γ (rIn K neg) (.d (.str x)) (.d (.tuple (xs.map PyData.str))) κ := fun σ v u H Q e hv hu s q => by
  cases hv
  cases hu with
  | tup hq r =>
    have e := r.of_strs
    subst e
    refine ⟨_, _, rfl, .inr hq, rfl, flat_strs xs, ?_⟩
    rw [inV_strs]
    exact q _ H (.d _) Ro.refl s (Rt.bl _) k
def rIsNn : R2 := fun x y H Q => y = .non ∧ Q (.bl (decide (x = .non))) H
theorem rd_isN (k : κ (.d (.bool true))) : RD K W Γ rIsNn (.d .none) (.d .none) κ := fun σ v u H Q e hv hu s q => by
  cases hv
  cases hu
  exact ⟨rfl, q _ H (.d _) Ro.refl s (Rt.bl true) k⟩
theorem rd_isNi {i : Int} (k : κ (.d (.bool false))) : RD K W Γ rIsNn (.d (.int i)) (.d .none) κ := fun σ v u H Q e hv hu s q => by
  cases hv
  cases hu
  exact ⟨rfl, q _ H (.d _) Ro.refl s (Rt.bl false) k⟩
/-! built-in calls -/
theorem cd_len {x : A} (h : (∃ p ds, x = .o p ds ∧ κ (.d (.int (ds.length : Int)))) ∨ (∃ ds, x = .d (.tuple ds) ∧ κ (.d (.int (ds.length : Int))))) : CD K W Γ (fun xs H Q => ∃ p ys, xs = [.ref p] ∧ (SqL K H p ys ∨ SqT K H p ys) ∧ Q (.int ys.length) H) [x] κ := fun σ vs H Q e hv s q => by
  cases hv with
  | cons hv hn =>
    cases hn
    rcases h with ⟨p, ds, rfl, k⟩ | ⟨ds, rfl, k⟩
    · obtain ⟨rfl, _, us, h1, r⟩ := hv
      exact ⟨p, us, rfl, .inl (SqL.of h1), q _ H (.d _) Ro.refl s (by rw [r.length]; exact Rt.int _) k⟩
    · cases hv with
      | @tup a us _ hq r => exact ⟨a, us, rfl, .inr hq, q _ H (.d _) Ro.refl s (by rw [r.length]; exact Rt.int _) k⟩
theorem cd_str {i : Int} (hz : i.natAbs.log2 < 1920) (k : κ (.d (.str (toString i)))) : CD K W Γ (fun xs H Q => ∃ i, xs = [.int i] ∧ i.natAbs.log2 < 1920 ∧ Q (.str (toString i)) H) [.d (.int i)] κ := fun σ vs H Q e hv s q => by
  cases hv with
  | cons hv hn =>
    cases hn
    cases hv
    exact ⟨i, rfl, hz, q _ H (.d _) Ro.refl s (Rt.str _) k⟩
/-- tuple(list) -/
theorem cd_tuple {p : Addr} {ds : List PyData} (k : κ (.d (.tuple ds))) : CD K W Γ (fun xs H Q => ∃ p ys, xs = [.ref p] ∧ ((SqL K H p ys ∧ ∀ l, H l = none → Q (.ref l) (upd H l (.tup ys))) ∨ (SqT K H p ys ∧ Q (.ref p) H))) [.o p ds] κ := fun σ vs H Q e hv s q => by
  cases hv with
  | cons hv hn =>
    cases hn
    obtain ⟨rfl, _, us, h1, r⟩ := hv
    refine ⟨p, us, rfl, .inl ⟨SqL.of h1, fun l hl => ?_⟩⟩
    have sm := same_new (o := HO.tup us) hl
    exact q _ _ (.d (.tuple ds)) (Ro.of_same sm) (Wd.same s sm) (Rt.tup (SqT.of upd_same) (r.keep (Kp.of_same sm))) k
/-! tests -/
theorem td_B {b : Bool → Prop} (h : ED K W te Γ fun a => ∃ c, a = .d (.bool c) ∧ b c) : TD K W (tB te) Γ b := fun σ H Q e s q =>
  h σ H _ e s fun v H1 a r1 s1 ha k => by
    obtain ⟨c, rfl, k⟩ := k
    cases ha
    exact ⟨c, rfl, q c H1 r1 s1 k⟩
theorem td_not {t : TT} {b : Bool → Prop} (h : TD K W t Γ fun c => b (!c)) : TD K W (tNot t) Γ b := fun σ H Q e s q => h σ H _ e s fun c H1 r1 s1 k => q _ H1 r1 s1 k
theorem td_and {t u : TT} {b : Bool → Prop} (h : TD K W t Γ fun c => if c = true then TD K W u Γ b else b false) : TD K W (tAnd t u) Γ b := fun σ H Q e s q => h σ H _ e s fun c H1 r1 s1 k => by
  cases c with
  | true =>
    show u σ H1 Q
    have k' : TD K W u Γ b := k
    exact k' σ H1 Q (e.keep s r1) s1 fun c2 H2 r2 s2 k2 => q c2 H2 (r1.trans r2) s2 k2
  | false =>
    show Q false H1
    exact q false H1 r1 s1 k
theorem td_or {t u : TT} {b : Bool → Prop} (h : TD K W t Γ fun c => if c = true then b true else TD K W u Γ b) : TD K W (tOr t u) Γ b := fun σ H Q e s q => h σ H _ e s fun c H1 r1 s1 k => by
  cases c with
  | true =>
    show Q true H1
    exact q true H1 r1 s1 k
  | false =>
    show u σ H1 Q
    have k' : TD K W u Γ b := k
    exact k' σ H1 Q (e.keep s r1) s1 fun c2 H2 r2 s2 k2 => q c2 H2 (r1.trans r2) s2 k2
theorem td_yes {b : Bool → Prop} (h : b true) : TD K W tYes Γ b := fun σ H Q e s q => q true H Ro.refl s h
/-! values of tests -/
theorem ed_if {t : TT} (h : TD K W t Γ fun c => if c = true then ED K W ta Γ κ else ED K W tb Γ κ) : ED K W (tIf t ta tb) Γ κ := fun σ H Q e s q => h σ H _ e s fun c H1 r1 s1 k => by
  cases c with
  | true =>
    show ta σ H1 Q
    have k' : ED K W ta Γ κ := k
    exact k' σ H1 Q (e.keep s r1) s1 fun v H2 a r2 s2 ha k2 => q v H2 a (r1.trans r2) s2 ha k2
  | false =>
    show tb σ H1 Q
    have k' : ED K W tb Γ κ := k
    exact k' σ H1 Q (e.keep s r1) s1 fun v H2 a r2 s2 ha k2 => q v H2 a (r1.trans r2) s2 ha k2
theorem ed_and (h : ED K W ta Γ fun a => ∃ c, a = .d (.bool c) ∧ if c = true then ED K W tb Γ κ else κ (.d (.bool false))) : ED K W (tAndV ta tb) Γ κ := fun σ H Q e s q => h σ H _ e s fun v H1 a r1 s1 ha k => by
  obtain ⟨c, rfl, k⟩ := k
  cases ha
  refine ⟨c, rfl, ?_⟩
  cases c with
  | true =>
    show tb σ H1 Q
    have k' : ED K W tb Γ κ := k
    exact k' σ H1 Q (e.keep s r1) s1 fun v H2 a r2 s2 ha k2 => q v H2 a (r1.trans r2) s2 ha k2
  | false =>
    show Q (.bl false) H1
    exact q _ H1 (.d _) r1 s1 (Rt.bl false) k
theorem ed_or (h : ED K W ta Γ fun a => ∃ c, a = .d (.bool c) ∧ if c = true then κ (.d (.bool true)) else ED K W tb Γ κ) : ED K W (tOrV ta tb) Γ κ := fun σ H Q e s q => h σ H _ e s fun v H1 a r1 s1 ha k => by
  obtain ⟨c, rfl, k⟩ := k
  cases ha
  refine ⟨c, rfl, ?_⟩
  cases c with
  | true =>
    show Q (.bl true) H1
    exact q _ H1 (.d _) r1 s1 (Rt.bl true) k
  | false =>
    show tb σ H1 Q
    have k' : ED K W tb Γ κ := k
    exact k' σ H1 Q (e.keep s r1) s1 fun v H2 a r2 s2 ha k2 => q v H2 a (r1.trans r2) s2 ha k2
theorem ed_not (h : ED K W ta Γ fun a => ∃ c, a = .d (.bool c) ∧ κ (.d (.bool (!c)))) : ED K W (tNotV ta) Γ κ := fun σ H Q e s q => h σ H _ e s fun v H1 a r1 s1 ha k => by
  obtain ⟨c, rfl, k⟩ := k
  cases ha
  exact ⟨c, rfl, q _ H1 (.d _) r1 s1 (Rt.bl _) k⟩
end
/-! ### calls -/
/-- a promise by data: what pre says of the arguments and what follows -/
def spD (K : Frag) (pre : Wd → List A → (A → Prop) → Prop) : Sp := fun vs H Q _ => ∃ (W : Wd) (as : List A) (κ : A → Prop), W.S H ∧ HasA K W H vs as ∧ pre W as κ ∧
  ∀ v H' a, Ro W H H' → W.S H' → Has K W H' v a → (∀ p ds, a = .o p ds → H p = none) → κ a → Q v H'
section
variable {K : Frag} {W : Wd} {Γ : Gm} {κ : A → Prop} {t : TA} {pre : Wd → List A → (A → Prop) → Prop}
/-- a result's list is a new one -/
def NewA (W : Wd) (Γ : Gm) : A → Prop
  | .o p _ => New W Γ p
  | _ => True
theorem ed_call (h : EDA K W t Γ fun as => pre W as fun a => NewA W Γ a → κ a) : ED K W (tCall (spD K pre) [] E0 t) Γ κ := fun σ H Q e s q =>
  h σ H _ e s fun vs H1 as r1 s1 has k1 => by
    refine ⟨W, as, _, s1, by rw [List.append_nil]; exact has, k1, fun v H2 a r2 s2 ha fr k2 => q v H2 a (r1.trans r2) s2 ha (k2 ?_)⟩
    cases a with
    | o p ds => exact new_of e s r1 s1 (fr p ds rfl)
    | _ => exact trivial
end
end Q47
set_option maxHeartbeats 4000000
/-! ### statements, loops, comprehensions, defs: slots told by data -/
namespace Q47
open PySem L2
open PySem.W (Frag)
open PyProof.Rows (envOfC)
def SD (K : Frag) (W : Wd) (t : TS) (Γ : Gm) (N : Gm → Prop) (R : A → Prop) : Prop :=
  ∀ σ H (D : Ends), En K W H σ Γ → W.S H → (∀ σ' H' Γ', Rs W H H' → W.S H' → En K W H' σ' Γ' → N Γ' → D.nx σ' H') → (∀ v H' a, Rs W H H' → W.S H' → Has K W H' v a → R a → D.rt v H') → t D σ H
/-- a target takes a value -/
def GD (K : Frag) (W : Wd) (g : TG) (a : A) (Γ : Gm) (N : Gm → Prop) : Prop :=
  ∀ v σ H (Q : St → Hp → Prop), En K W H σ Γ → W.S H → Has K W H v a → (∀ σ' Γ', En K W H σ' Γ' → N Γ' → Q σ' H) → g v σ H Q
section
variable {K : Frag} {W : Wd} {Γ : Gm} {N : Gm → Prop} {R : A → Prop} {t u : TS} {te tl : TE} {g : TG}
theorem sd_seq (h : SD K W t Γ (fun Γ' => SD K W u Γ' N R) R) : SD K W (tSeq t u) Γ N R := fun σ H D e s hn hr =>
  h σ H { D with nx := u D } e s (fun σ1 H1 Γ1 r1 s1 e1 k1 => k1 σ1 H1 D e1 s1 (fun σ2 H2 Γ2 r2 s2 e2 k2 => hn σ2 H2 Γ2 (r1.trans r2) s2 e2 k2) fun v H2 a r2 s2 ha k2 => hr v H2 a (r1.trans r2) s2 ha k2) hr
theorem sd_next (h : N Γ) : SD K W tNext Γ N R := fun σ H D e s hn _ => hn σ H Γ Rs.refl s e h
theorem sd_asg (h : ED K W te Γ fun a => GD K W g a Γ N) : SD K W (tAsg te g) Γ N R := fun σ H D e s hn _ =>
  h σ H _ e s fun v H1 a r1 s1 ha k => k v σ H1 _ (e.keep s r1) s1 ha fun σ2 Γ2 e2 k2 => hn σ2 H1 Γ2 (r1.rs s) s1 e2 k2
theorem gd_name {i : Nat} {a : A} (h : N (Γ.set i (some a))) : GD K W (gName i) a Γ N := fun v σ H Q e s ha q => q _ _ (e.set i ha) h
/-- the places of a tuple, one after another -/
def GDs (K : Frag) (W : Wd) (g : TGs) (ds : List PyData) (Γ : Gm) (N : Gm → Prop) : Prop :=
  ∀ vs σ H (Q : St → Hp → Prop), En K W H σ Γ → W.S H → RtA K H vs ds → (∀ σ' Γ', En K W H σ' Γ' → N Γ' → Q σ' H) → g vs σ H Q
theorem gds_nil (h : N Γ) : GDs K W gNil [] Γ N := fun vs σ H Q e s r q => by
  cases r
  exact ⟨rfl, q σ Γ e h⟩
theorem gds_cons {gs : TGs} {d : PyData} {ds : List PyData} (h : GD K W g (.d d) Γ fun Γ' => GDs K W gs ds Γ' N) : GDs K W (gCons g gs) (d :: ds) Γ N := fun vs σ H Q e s r q => by
  cases r with
  | @cons v vs _ _ hv hr => exact ⟨v, vs, rfl, h v σ H _ e s hv fun σ' Γ' e' k => k vs σ' H Q e' s hr q⟩
theorem gd_tup {gs : TGs} {ds : List PyData} {n : Nat} (hn : ds.length = n) (h : GDs K W gs ds Γ N) : GD K W (gTup K n gs) (.d (.tuple ds)) Γ N := fun v σ H Q e s ha q => by
  cases ha with
  | @tup a vs _ hq r => exact ⟨a, vs, rfl, hq, by rw [r.length]; exact hn, h vs σ H Q e s r q⟩
theorem sd_ret (h : ED K W te Γ R) : SD K W (tRet te) Γ N R := fun σ H D e s _ hr => h σ H _ e s fun v H1 a r1 s1 ha k => hr v H1 a (r1.rs s) s1 ha k
theorem sd_if {c : TT} (h : TD K W c Γ fun b => if b = true then SD K W t Γ N R else SD K W u Γ N R) : SD K W (tIfS c t u) Γ N R := fun σ H D e s hn hr => h σ H _ e s fun b H1 r1 s1 k => by
  cases b with
  | true =>
    show t D σ H1
    have k' : SD K W t Γ N R := k
    exact k' σ H1 D (e.keep s r1) s1 (fun σ2 H2 Γ2 r2 s2 e2 k2 => hn σ2 H2 Γ2 ((r1.rs s).trans r2) s2 e2 k2) fun v H2 a r2 s2 ha k2 => hr v H2 a ((r1.rs s).trans r2) s2 ha k2
  | false =>
    show u D σ H1
    have k' : SD K W u Γ N R := k
    exact k' σ H1 D (e.keep s r1) s1 (fun σ2 H2 Γ2 r2 s2 e2 k2 => hn σ2 H2 Γ2 ((r1.rs s).trans r2) s2 e2 k2) fun v H2 a r2 s2 ha k2 => hr v H2 a ((r1.rs s).trans r2) s2 ha k2
theorem sd_drop (h : ED K W te Γ fun _ => N Γ) : SD K W (tDrop te) Γ N R := fun σ H D e s hn _ => h σ H _ e s fun v H1 a r1 s1 ha k => hn σ H1 Γ (r1.rs s) s1 (e.keep s r1) k
/-- a, b = x, y -/
theorem sd_par {i j : Nat} {ta : TA} (h : EDA K W ta Γ fun as => ∃ a b, as = [a, b] ∧ N ((Γ.set i (some a)).set j (some b))) : SD K W (tPar i j ta) Γ N R := fun σ H D e s hn _ =>
  h σ H _ e s fun vs H1 as r1 s1 ha k => by
    obtain ⟨a, b, rfl, k⟩ := k
    cases ha with
    | cons h1 h2 =>
      cases h2 with
      | cons h2 h3 =>
        cases h3
        exact ⟨_, _, rfl, hn _ H1 _ (r1.rs s) s1 (((e.keep s r1).set i h1).set j h2) k⟩
theorem sd_par3 {i j l : Nat} {ta : TA} (h : EDA K W ta Γ fun as => ∃ a b c, as = [a, b, c] ∧ N (((Γ.set i (some a)).set j (some b)).set l (some c))) : SD K W (tPar3 i j l ta) Γ N R := fun σ H D e s hn _ =>
  h σ H _ e s fun vs H1 as r1 s1 ha k => by
    obtain ⟨a, b, c, rfl, k⟩ := k
    cases ha with
    | cons h1 h2 =>
      cases h2 with
      | cons h2 h3 =>
        cases h3 with
        | cons h3 h4 =>
          cases h4
          exact ⟨_, _, _, rfl, hn _ H1 _ (r1.rs s) s1 ((((e.keep s r1).set i h1).set j h2).set l h3) k⟩
/-- xs.append(e), xs the list of slot i -/
theorem sd_app {i : Nat} {p : Addr} {xs : List PyData} (hp : Γ[i]? = some (some (.o p xs))) (ho : ¬ W.O p) (hx : xs.length < 100000) (hne : ∀ (j : Nat) q ys, j ≠ i → Γ[j]? = some (some (.o q ys)) → q ≠ p)
    (h : ED K W te Γ fun a => ∃ d, a = .d d ∧ N (Γ.set i (some (.o p (xs ++ [d]))))) : SD K W (tDrop (tBM K "list" rAppend (tVar i) (tCons te tNil))) Γ N R := fun σ H D e s hn _ => by
  obtain ⟨v, h1, rfl, hm, vs, h2, h3⟩ := e.at_ i _ hp
  refine ⟨_, h1, .inl ⟨rfl, _, SqL.of h2⟩, ?_⟩
  refine h σ H _ e s fun y H1 a r1 s1 ha k => ?_
  obtain ⟨d, rfl, k⟩ := k
  have h2' := r1 _ _ hm h2
  refine ⟨p, vs, y, rfl, rfl, h2', Nat.lt_of_lt_of_le (by rw [h3.length]; exact hx) (by decide), ?_⟩
  have kp1 : Kp H1 (upd H1 p (.lst (vs ++ [y]))) := fun b ob n q => by
    rw [upd_ne (fun z => by rw [z, h2'] at q; cases q; exact n)]
    exact q
  have s2 : W.S (upd H1 p (.lst (vs ++ [y]))) := W.mono _ _ s1 fun b ob mo q => by
    rw [upd_ne (fun z => by
      rw [z] at mo
      exact mo.elim hm ho)]
    exact q
  refine hn σ _ _ ⟨fun b ob bo bm q => ?_, (r1.kp s).trans kp1⟩ s2 ?_ k
  · rw [upd_ne (fun z => by rw [z] at bo; exact ho bo)]
    exact r1 b ob bm q
  · refine ⟨by rw [List.length_set]; exact e.len, fun j b hb => ?_⟩
    by_cases hij : i = j
    · subst hij
      have hi : i < Γ.length := (List.getElem?_eq_some_iff.mp hp).1
      rw [List.getElem?_set_self hi] at hb
      cases hb
      exact ⟨_, h1, rfl, hm, _, upd_same, (RtA.keep ((r1.kp s).trans kp1) h3).append (.cons (Rt.keep kp1 ha) .nil)⟩
    · rw [List.getElem?_set_ne hij] at hb
      obtain ⟨u, g1, g2⟩ := e.at_ j b hb
      refine ⟨u, g1, ?_⟩
      have g3 := g2.keep s r1
      cases b with
      | d x => exact Rt.keep kp1 g3
      | o q ys =>
        obtain ⟨e1, m1, us, e2, e3⟩ := g3
        exact ⟨e1, m1, us, by rw [upd_ne (hne j q ys (Ne.symm hij) hb)]; exact e2, e3.keep kp1⟩
      | v x => exact g3
      | p P => exact fun H2 k2 => g3 H2 (kp1.trans k2)
/-! loops -/
theorem sd_forL {p : Addr} {ds : List PyData} (I : Nat → Gm → Prop) (h : ED K W tl Γ fun a => a = .o p ds) (hI : I 0 Γ) (hs : ∀ i Γ', I i Γ' → ∃ j : Nat, Γ'[j]? = some (some (.o p ds)))
    (hb : ∀ i d Γ', ds[i]? = some d → I i Γ' → GD K W g (.d d) Γ' fun Γ2 => SD K W t Γ2 (I (i + 1)) R) (hN : ∀ Γ', I ds.length Γ' → N Γ') : SD K W (tFor (iList K tl) g t) Γ N R := fun σ H D e s hn hr => by
  refine h σ H _ e s fun v H1 a r1 s1 ha k => ?_
  subst k
  obtain ⟨rfl, hm, vs, h1, h2⟩ := ha
  refine ⟨p, rfl, ⟨vs, SqL.of h1⟩, fun i m σ' H' => m = ds.length - i ∧ i ≤ ds.length ∧ ∃ Γ' vs, Rs W H H' ∧ W.S H' ∧ En K W H' σ' Γ' ∧ RtA K H' vs ds ∧ H' p = some (.lst vs) ∧ I i Γ', ⟨ds.length, rfl, Nat.zero_le _, Γ, vs, r1.rs s, s1, e.keep s r1, h2, h1, hI⟩, ?_⟩
  rintro i m σ' H' ⟨rfl, hi, Γ', vs', rs, s', e', r', q', I'⟩
  have hvl := r'.length
  by_cases hlt : i < ds.length
  · obtain ⟨x, hx, hxd⟩ := r'.get (List.getElem?_eq_getElem hlt)
    refine .inr ⟨⟨vs', x, SqL.of q', hx⟩, fun σ3 H3 => ∃ Γ' vs, Rs W H H3 ∧ W.S H3 ∧ En K W H3 σ3 Γ' ∧ RtA K H3 vs ds ∧ H3 p = some (.lst vs) ∧ I (i + 1) Γ', fun σ3 H3 q3 => ⟨ds.length - (i + 1), by omega, rfl, hlt, q3⟩, fun y H4 hy => ?_⟩
    obtain ⟨rfl, hy⟩ := hy
    have ey : y = x := Option.some.inj ((hy vs' (SqL.of q')).symm.trans hx)
    subst ey
    refine hb i _ Γ' (List.getElem?_eq_getElem hlt) I' y σ' _ _ e' s' hxd fun σ2 Γ2 e2 k2 => ?_
    have post : ∀ σ3 H3 Γ3, Rs W _ H3 → W.S H3 → En K W H3 σ3 Γ3 → I (i + 1) Γ3 → ∃ Γ' vs, Rs W H H3 ∧ W.S H3 ∧ En K W H3 σ3 Γ' ∧ RtA K H3 vs ds ∧ H3 p = some (.lst vs) ∧ I (i + 1) Γ' := fun σ3 H3 Γ3 r3 s3 e3 k3 => by
      obtain ⟨j, hj⟩ := hs _ _ k3
      obtain ⟨v, _, rfl, _, us, q3, q4⟩ := e3.at_ j _ hj
      exact ⟨Γ3, us, rs.trans r3, s3, e3, q4, q3, k3⟩
    exact k2 σ2 _ _ e2 s' (fun σ3 H3 Γ3 r3 s3 e3 k3 => post σ3 H3 Γ3 r3 s3 e3 k3) fun v H3 a r3 s3 ha k3 => hr v H3 a (rs.trans r3) s3 ha k3
  · have ei : i = ds.length := by omega
    subst ei
    exact .inl ⟨⟨vs', SqL.of q', by omega⟩, hn σ' H' Γ' rs s' e' (hN Γ' I')⟩
/-- over a tuple -/
theorem sd_forT {ds : List PyData} (I : Nat → Gm → Prop) (h : ED K W tl Γ fun a => a = .d (.tuple ds)) (hI : I 0 Γ)
    (hb : ∀ i d Γ', ds[i]? = some d → I i Γ' → GD K W g (.d d) Γ' fun Γ2 => SD K W t Γ2 (I (i + 1)) R) (hN : ∀ Γ', I ds.length Γ' → N Γ') : SD K W (tFor (iTup K tl) g t) Γ N R := fun σ H D e s hn hr => by
  refine h σ H _ e s fun v H1 a r1 s1 ha k => ?_
  subst k
  cases ha with
  | @tup a vs _ hq h2 =>
    have hvl := h2.length
    refine ⟨a, rfl, ⟨vs, hq⟩, for_tup (K := K) (xs := vs) (fun i σ' H' => ∃ Γ', Rs W H H' ∧ W.S H' ∧ En K W H' σ' Γ' ∧ RtA K H' vs ds ∧ SqT K H' a vs ∧ I i Γ') ⟨Γ, r1.rs s, s1, e.keep s r1, h2, hq, hI⟩ (fun i σ' H' _ ⟨_, _, _, _, _, q, _⟩ => q) ?_ ?_⟩
    · rintro i x σ' H' hi ⟨Γ', rs, s', e', r', q', I'⟩
      obtain ⟨d, hd, hx⟩ := r'.getv hi
      refine hb i d Γ' hd I' x σ' H' _ e' s' hx fun σ2 Γ2 e2 k2 => ?_
      exact k2 σ2 H' _ e2 s' (fun σ3 H3 Γ3 r3 s3 e3 k3 => ⟨Γ3, rs.trans r3, s3, e3, r'.keep r3.kp, r3.kp.sqT q', k3⟩) fun v H3 a r3 s3 ha k3 => hr v H3 a (rs.trans r3) s3 ha k3
    · rintro σ' H' ⟨Γ', rs, s', e', _, _, I'⟩
      exact hn σ' H' Γ' rs s' e' (hN Γ' (hvl ▸ I'))
theorem sd_forR {ta : TA} {n : Nat} (I : Nat → Gm → Prop) (h : EDA K W ta Γ fun as => as = [.d (.int (n : Int))]) (hn : n ≤ 100000) (hI : I 0 Γ)
    (hb : ∀ (i : Nat) Γ', i < n → I i Γ' → GD K W g (.d (.int (i : Int))) Γ' fun Γ2 => SD K W t Γ2 (I (i + 1)) R) (hN : ∀ Γ', I n Γ' → N Γ') : SD K W (tFor (iRng1 ta) g t) Γ N R := fun σ H D e s hnx hr => by
  refine h σ H _ e s fun vs H1 as r1 s1 ha k => ?_
  subst k
  cases ha with
  | cons h1 h2 =>
    cases h2
    cases h1
    refine ⟨(n : Int), rfl, by omega, by omega, ?_⟩
    have en : ((n : Int)).toNat = n := Int.toNat_natCast n
    rw [en]
    refine for_range (lo := 0) (n := n) (fun i σ' H' => ∃ Γ', Rs W H H' ∧ W.S H' ∧ En K W H' σ' Γ' ∧ I i Γ') ⟨Γ, r1.rs s, s1, e.keep s r1, hI⟩ ?_ ?_
    · rintro i σ' H' hi ⟨Γ', rs, s', e', I'⟩
      rw [Int.zero_add]
      refine hb i Γ' hi I' _ σ' H' _ e' s' (Rt.int _) fun σ2 Γ2 e2 k2 => ?_
      exact k2 σ2 H' _ e2 s' (fun σ3 H3 Γ3 r3 s3 e3 k3 => ⟨Γ3, rs.trans r3, s3, e3, k3⟩) fun v H3 a r3 s3 ha k3 => hr v H3 a (rs.trans r3) s3 ha k3
    · rintro σ' H' ⟨Γ', rs, s', e', I'⟩
      exact hnx σ' H' Γ' rs s' e' (hN Γ' I')
end
/-! comprehensions -/
section
variable {K : Frag} {W : Wd} {Γ : Gm} {κ : A → Prop} {tl te : TE} {tt : TT}
/-- what stands of a comprehension's list -/
structure Lc (K : Frag) (W : Wd) (Γ : Gm) (σ : St) (vs : List Nat) (I : Nat → List PyData → Prop) (H1 : Hp) (Dl : Addr) (i : Nat) (H' : Hp) : Prop where
  ro : Ro W H1 H'
  s : W.S H'
  d : ∃ us acc, H' Dl = some (.lst us) ∧ RtA K H' us acc ∧ acc.length ≤ i ∧ I i acc
theorem lc_turn {σ : St} {H1 H' : Hp} {Dl : Addr} {i j : Nat} {vs : List Nat} {v : V} {d : PyData} {I : Nat → List PyData → Prop} (hj : j ∈ vs) (hi : i < 100000) (e : En K W H1 σ Γ) (s1 : W.S H1) (hD : H1 Dl = none) (c : Lc K W Γ σ vs I H1 Dl i H') (hv : Rt K H' v d)
    (hb : ∀ acc, I i acc → TD K W tt ((wipeG Γ vs).set j (some (.d d))) fun b => if b = true then ED K W te ((wipeG Γ vs).set j (some (.d d))) fun a => ∃ y, a = .d y ∧ I (i + 1) (acc ++ [y]) else I (i + 1) acc) :
    gName j v (wipe σ vs) H' fun σ2 H2 => wipe σ2 vs = wipe σ vs ∧ tt σ2 H2 fun b H3 => if b = true then te σ2 H3 fun y H4 => ∃ acc, H4 Dl = some (.lst acc) ∧ acc.length < sizeLine ∧ Lc K W Γ σ vs I H1 Dl (i + 1) (upd H4 Dl (.lst (acc ++ [y]))) else Lc K W Γ σ vs I H1 Dl (i + 1) H3 := by
  obtain ⟨us, acc, h1, h2, h3, h4⟩ := c.d
  have nm : ¬ W.M Dl := Wd.freshM s1 hD
  have no : ¬ W.O Dl := Wd.freshO s1 hD
  have e2 : En K W H' ((wipe σ vs).set j (some v)) ((wipeG Γ vs).set j (some (.d d))) := ((e.keep s1 c.ro).wipe vs).set j hv
  refine ⟨by rw [wipe_set hj, wipe_wipe], ?_⟩
  refine hb acc h4 _ H' _ e2 c.s fun b H3 r3 s3 k3 => ?_
  cases b with
  | false =>
    show Lc K W Γ σ vs I H1 Dl (i + 1) H3
    exact ⟨c.ro.trans r3, s3, us, acc, r3 _ _ nm h1, h2.keep (r3.kp c.s), Nat.le_succ_of_le h3, k3⟩
  | true =>
    show te _ H3 _
    have k4 : ED K W te ((wipeG Γ vs).set j (some (.d d))) fun a => ∃ y, a = .d y ∧ I (i + 1) (acc ++ [y]) := k3
    refine k4 _ H3 _ (e2.keep c.s r3) s3 fun y H4 a r4 s4 ha k5 => ?_
    obtain ⟨dy, rfl, k5⟩ := k5
    have r34 := r3.trans r4
    have hD4 := r34 _ _ nm h1
    have kp4 : Kp H4 (upd H4 Dl (.lst (us ++ [y]))) := fun b ob n q => by
      rw [upd_ne (fun z => by rw [z, hD4] at q; cases q; exact n)]
      exact q
    refine ⟨us, hD4, Nat.lt_of_lt_of_le (show us.length < 100001 by rw [h2.length]; omega) (by decide), ⟨fun b ob bm q => ?_, W.mono _ _ s4 fun b ob mo q => ?_, us ++ [y], acc ++ [dy], upd_same, ((h2.keep (r34.kp c.s)).append (.cons ha .nil)).keep kp4, by rw [List.length_append]; simp; omega, k5⟩⟩
    · rw [upd_ne (ne_of_none q hD)]
      exact r34 b ob bm (c.ro b ob bm q)
    · rw [upd_ne (fun z => by
        rw [z] at mo
        exact mo.elim nm no)]
      exact q
theorem lc_end {σ : St} {H H1 H' : Hp} {Dl : Addr} {n : Nat} {vs : List Nat} {Q : VK} {I : Nat → List PyData → Prop} (e : En K W H σ Γ) (s : W.S H) (r : Ro W H H1) (s1 : W.S H1) (hD : H1 Dl = none) (c : Lc K W Γ σ vs I H1 Dl n H')
    (k : ∀ p acc, New W Γ p → acc.length ≤ n → I n acc → κ (.o p acc)) (q : ∀ v H' a, Ro W H H' → W.S H' → Has K W H' v a → κ a → Q v H') : Q (.ref Dl) H' := by
  obtain ⟨us, acc, h1, h2, h3, h4⟩ := c.d
  exact q _ H' (.o Dl acc) (r.trans c.ro) c.s ⟨rfl, Wd.freshM s1 hD, us, h1, h2⟩ (k Dl acc (new_of e s r s1 hD) h3 h4)
theorem lc_start {σ : St} {H1 : Hp} {Dl : Addr} {vs : List Nat} {I : Nat → List PyData → Prop} (s1 : W.S H1) (hD : H1 Dl = none) (h0 : I 0 []) : Lc K W Γ σ vs I H1 Dl 0 (upd H1 Dl (.lst [])) :=
  ⟨Ro.of_same (same_new hD), Wd.same s1 (same_new hD), [], [], upd_same, .nil, Nat.le_refl _, h0⟩
/-- [te for x in a list if tt] -/
theorem ed_lcL {j : Nat} {vs : List Nat} (hj : j ∈ vs) (h : ED K W tl Γ fun a => ∃ p ds, a = .o p ds ∧ ds.length ≤ 50000 ∧ ∃ I : Nat → List PyData → Prop, I 0 [] ∧
      (∀ i d acc, ds[i]? = some d → I i acc → TD K W tt ((wipeG Γ vs).set j (some (.d d))) fun b => if b = true then ED K W te ((wipeG Γ vs).set j (some (.d d))) fun a => ∃ y, a = .d y ∧ I (i + 1) (acc ++ [y]) else I (i + 1) acc) ∧
      ∀ p acc, New W Γ p → acc.length ≤ ds.length → I ds.length acc → κ (.o p acc)) : ED K W (tLc (iList K tl) (gName j) tt te vs) Γ κ := fun σ H Q e s q => by
  refine h σ H _ e s fun v H1 a r1 s1 ha k => ?_
  obtain ⟨p, ds, rfl, hl, I, h0, hb, hk⟩ := k
  obtain ⟨rfl, hm, ws, h1, h2⟩ := ha
  have hwl := h2.length
  refine ⟨p, rfl, ⟨ws, SqL.of h1⟩, fun Dl hD => lc_list (xs := ws) (Lc K W Γ σ vs I H1 Dl) (lc_start s1 hD h0) (fun i H' _ c => SqL.of (c.ro _ _ hm h1)) (fun i x H' hi c => ?_) fun H' c => ?_⟩
  · obtain ⟨d, hd, hx⟩ := h2.getv hi
    have hil := (List.getElem?_eq_some_iff.mp hd).1
    exact lc_turn hj (by omega) (e.keep s r1) s1 hD c (hx.keep (c.ro.kp s1)) fun acc ia => hb i d acc hd ia
  · exact lc_end e s r1 s1 hD (hwl ▸ c) hk q
/-- .. over a tuple -/
theorem ed_lcT {j : Nat} {vs : List Nat} (hj : j ∈ vs) (h : ED K W tl Γ fun a => ∃ ds, a = .d (.tuple ds) ∧ ds.length ≤ 50000 ∧ ∃ I : Nat → List PyData → Prop, I 0 [] ∧
      (∀ i d acc, ds[i]? = some d → I i acc → TD K W tt ((wipeG Γ vs).set j (some (.d d))) fun b => if b = true then ED K W te ((wipeG Γ vs).set j (some (.d d))) fun a => ∃ y, a = .d y ∧ I (i + 1) (acc ++ [y]) else I (i + 1) acc) ∧
      ∀ p acc, New W Γ p → acc.length ≤ ds.length → I ds.length acc → κ (.o p acc)) : ED K W (tLc (iTup K tl) (gName j) tt te vs) Γ κ := fun σ H Q e s q => by
  refine h σ H _ e s fun v H1 a r1 s1 ha k => ?_
  obtain ⟨ds, rfl, hl, I, h0, hb, hk⟩ := k
  cases ha with
  | @tup p ws _ h1 h2 =>
    have hwl := h2.length
    refine ⟨p, rfl, ⟨ws, h1⟩, fun Dl hD => lc_tup (xs := ws) (Lc K W Γ σ vs I H1 Dl) (lc_start s1 hD h0) (fun i H' _ c => (c.ro.kp s1).sqT h1) (fun i x H' hi c => ?_) fun H' c => ?_⟩
    · obtain ⟨d, hd, hx⟩ := h2.getv hi
      have hil := (List.getElem?_eq_some_iff.mp hd).1
      exact lc_turn hj (by omega) (e.keep s r1) s1 hD c (hx.keep (c.ro.kp s1)) fun acc ia => hb i d acc hd ia
    · exact lc_end e s r1 s1 hD (hwl ▸ c) hk q
/-- .. over range(n) -/
theorem ed_lcR {ta : TA} {j : Nat} {vs : List Nat} (hj : j ∈ vs) (h : EDA K W ta Γ fun as => ∃ n : Nat, as = [.d (.int (n : Int))] ∧ n ≤ 50000 ∧ ∃ I : Nat → List PyData → Prop, I 0 [] ∧
      (∀ i acc, i < n → I i acc → TD K W tt ((wipeG Γ vs).set j (some (.d (.int (i : Int))))) fun b => if b = true then ED K W te ((wipeG Γ vs).set j (some (.d (.int (i : Int))))) fun a => ∃ y, a = .d y ∧ I (i + 1) (acc ++ [y]) else I (i + 1) acc) ∧
      ∀ p acc, New W Γ p → acc.length ≤ n → I n acc → κ (.o p acc)) : ED K W (tLc (iRng1 ta) (gName j) tt te vs) Γ κ := fun σ H Q e s q => by
  refine h σ H _ e s fun v H1 a r1 s1 ha k => ?_
  obtain ⟨n, rfl, hl, I, h0, hb, hk⟩ := k
  cases ha with
  | cons h1 h2 =>
    cases h2
    cases h1
    refine ⟨(n : Int), rfl, by omega, by omega, ?_⟩
    have en : ((n : Int)).toNat = n := Int.toNat_natCast n
    rw [en]
    refine fun Dl hD => lc_range (lo := 0) (n := n) (Lc K W Γ σ vs I H1 Dl) (lc_start s1 hD h0) (fun i H' hi c => ?_) fun H' c => ?_
    · rw [Int.zero_add]
      exact lc_turn hj (by omega) (e.keep s r1) s1 hD c (Rt.int _) fun acc ia => hb i acc hi ia
    · exact lc_end e s r1 s1 hD c hk q
end
/-! ### a def by data -/
def startG (N : List Str) (as : List A) : Gm := as.map some ++ List.replicate (N.length - as.length) none
theorem start_en {K : Frag} {W : Wd} {H : Hp} {N : List Str} {vs : List V} {as : List A} (h : HasA K W H vs as) : En K W H (L2.start N vs) (startG N as) := by
  have hl := h.length
  refine ⟨by unfold L2.start startG; rw [List.length_append, List.length_append, List.length_map, List.length_map, List.length_replicate, List.length_replicate, hl], fun i a q => ?_⟩
  unfold startG at q
  by_cases hi : i < as.length
  · rw [List.getElem?_append_left (by rw [List.length_map]; exact hi), List.getElem?_map] at q
    cases e : as[i]? with
    | none =>
      rw [e] at q
      cases q
    | some b =>
      rw [e] at q
      cases q
      obtain ⟨v, h1, h2⟩ := h.get e
      refine ⟨v, ?_, h2⟩
      unfold L2.start
      rw [List.getElem?_append_left (by rw [List.length_map, hl]; exact hi), List.getElem?_map, h1]
      rfl
  · rw [List.getElem?_append_right (by rw [List.length_map]; omega), List.getElem?_replicate] at q
    split at q <;> cases q
theorem has_at {K : Frag} {W : Wd} {H H' : Hp} {v : V} {a : A} (h : Has K W H' v a) : Has K (W.at H) H' v a := by
  cases a <;> exact h
theorem has_of_at {K : Frag} {W : Wd} {H H' : Hp} {v : V} {a : A} (h : Has K (W.at H) H' v a) : Has K W H' v a := by
  cases a <;> exact h
theorem hasA_at {K : Frag} {W : Wd} {H H' : Hp} : ∀ {vs : List V} {as : List A}, HasA K W H' vs as → HasA K (W.at H) H' vs as
  | _, _, .nil => .nil
  | _, _, .cons h t => .cons (has_at h) (hasA_at t)
/-- what a def gives back: a list only if it is a new one -/
def Out (W : Wd) (κ : A → Prop) (a : A) : Prop := κ a ∧ ∀ p ds, a = .o p ds → ¬ W.O p
section
variable {P : Program} {w : World} {K : Frag} {mg : Str → Option Value} {base : Heap} {x qual : Str} {params : Arguments} {body : List Stmt} {scope : Scope} {kws : List (Str × V)} {f : Addr} {fd : FuncData} {N ps : List Str} {k : Nat}
theorem fnD {pre : Wd → List A → (A → Prop) → Prop} (F : FunD K x qual params body scope [] kws f fd) (S : FnScope N ps scope) (hl : ∀ W as κ, pre W as κ → as.length = ps.length) (hp : ∀ W as κ H, pre W as κ → pre (W.at H) as κ)
    (hb : ∀ (cdv : Value) (A : Around) (outer : List Env) (s : Shared) (H : Hp) (E : XK), Room k (A.deeper (envOfC qual scope s.heap.objs.size f cdv)) → ∀ W as κ, pre W as κ →
      ∃ t, PSs (cxOf CX0 P w K mg base N qual scope f cdv A outer s H E).nox body t ∧ SD K W t (startG N as) (fun _ => κ (.d .none)) (Out W κ)) : FnOk P w K mg base CX0 (k + 1) f fd ps (spD K pre) := by
  refine F.ok S (fun vs H Q E h => ?_) fun cdv A outer s H vs Q E hr h => ?_
  · obtain ⟨W, as, κ, _, hv, hpre, _⟩ := h
    rw [hv.length]
    exact hl W as κ hpre
  · obtain ⟨W, as, κ, hs, hv, hpre, q⟩ := h
    obtain ⟨t, h1, h2⟩ := hb cdv A outer s H E hr (W.at H) as κ (hp W as κ H hpre)
    refine ⟨t, h1.nox, ?_⟩
    have s0 : (W.at H).S H := ⟨hs, Ro.refl, hs⟩
    have ro : ∀ {H'}, Rs (W.at H) H H' → Ro W H H' := fun r a o m e => r.old a o (by show H a ≠ none; rw [e]; exact fun z => by cases z) m e
    refine h2 (L2.start N vs) H _ (start_en (hasA_at hv)) s0 (fun σ' H' Γ' r s' _ hk => ?_) (fun v H' a r s' ha hk => ?_)
    · exact q .non H' (.d .none) (ro r) s'.1 Rt.non (fun p ds z => by cases z) hk
    · refine q v H' a (ro r) s'.1 (has_of_at ha) (fun p ds z => ?_) hk.1
      have n := hk.2 p ds z
      cases e : H p with
      | none => rfl
      | some o => exact absurd (show H p ≠ none by rw [e]; exact fun z => by cases z) n
end
end Q47
set_option maxHeartbeats 4000000
/-! ### short rules: calls, the module's constants, a place of a written dict -/
namespace Q47
open PySem L2
open PySem.W (Frag)
/-- a def of the text keeps its promise: where it stands is told by its name -/
def Ok (P : Program) (w : World) (K : Frag) (mg : Str → Option Value) (base : Heap) (k : Nat) (at_ : Str × Option Str) (ps : List Str) (sp : Sp) : Prop :=
  ∃ fd, FnOk P w K mg base CX0 k (He.fAd K at_) fd ps sp ∧ Binds K fd ps [] ∧ PySem.W.keepIn K (.ref (He.fAd K at_)) = true
section
variable {X : Cx} {x : Str} {p pos apos : Pos} {e o : Expr} {es : List Expr} {ta te : TE} {t : TA} {k j : Nat} {ps : List Str} {sp : Sp} {C : Addr}
theorem Ok.mono {P : Program} {w : World} {K : Frag} {mg : Str → Option Value} {base : Heap} {at_ : Str × Option Str} (h : Ok P w K mg base j at_ ps sp) (hj : j ≤ k) : Ok P w K mg base k at_ ps sp :=
  let ⟨fd, F, b, kp⟩ := h
  ⟨fd, F.mono hj, b, kp⟩
theorem Ok.imp {P : Program} {w : World} {K : Frag} {mg : Str → Option Value} {base : Heap} {at_ : Str × Option Str} {sp' : Sp} (h : Ok P w K mg base k at_ ps sp) (q : ∀ vs H Q E, sp' vs H Q E → sp vs H Q E) : Ok P w K mg base k at_ ps sp' :=
  let ⟨fd, F, b, kp⟩ := h
  ⟨fd, F.imp q, b, kp⟩
/-- f(e, ..) -/
theorem pe_cf (F : Ok X.prog X.w X.K X.mg X.base k (x, none) ps sp) (hr : Room k X.A) (hm : X.mg x = some (.ref (He.ga X.K x))) (ha : PA X (e :: es) t) (hg : Gl X x := by rfl) (hdb : (x == ("__debug__" : Str)) = false := by decide)
    (he : starEach (e :: es) X.env = (false, eval e X.env) :: starEach es X.env := by rfl) (hpl : (backTo pos (starEach es X.env)).any (·.1) = false := by rfl) : PE X (.Call (.Name x p) (e :: es) [] pos) (tCall sp [] E0 t) :=
  let ⟨_, F', b, kp⟩ := F
  pe_call F' hr hg hm kp b .nil pass0 ha hdb he hpl
/-- o.m(e, ..) -/
theorem pe_cm {c m : Str} {pl : Sem Bool} (F : Ok X.prog X.w X.K X.mg X.base k (c, some m) ps sp) (hr : Room k X.A) (hc : Cls X.K (He.ga X.K c)) (hm : Meth X.K (He.ga X.K c) m (He.fAd X.K (c, some m))) (he : PE X o ta) (ha : PA X (e :: es) t)
    (hst : starEach (e :: es) X.env = (false, eval e X.env) :: starEach es X.env := by rfl) (hpl : (backTo pos (starEach es X.env)).any (·.1) = false := by rfl)
    (ht : eval (.Call (.Attribute o m apos) (e :: es) [] pos) X.env = (do
      let ov ← eval o X.env
      standAt apos.atName
      let (f, first) ← holding [ov] (getMethod ov m pl)
      callWith pos f first (backTo pos (starEach (e :: es) X.env)) (backToKw pos (keywordEach [] X.env))) := by rfl) :
    PE X (.Call (.Attribute o m apos) (e :: es) [] pos) (tMeth (He.ga X.K c) m sp [] E0 ta t) :=
  let ⟨_, F', b, _⟩ := F
  pe_meth he hc hm F' hr b .nil pass0 ha hst hpl ht
/-- o.m() -/
theorem pe_cm0 {c m : Str} {pl : Sem Bool} (F : Ok X.prog X.w X.K X.mg X.base k (c, some m) ps sp) (hr : Room k X.A) (hc : Cls X.K (He.ga X.K c)) (hm : Meth X.K (He.ga X.K c) m (He.fAd X.K (c, some m))) (he : PE X o ta)
    (ht : eval (.Call (.Attribute o m apos) [] [] pos) X.env = (do
      let ov ← eval o X.env
      standAt apos.atName
      let (f, first) ← holding [ov] (getMethod ov m pl)
      callWith pos f first (backTo pos (starEach [] X.env)) (backToKw pos (keywordEach [] X.env))) := by rfl) :
    PE X (.Call (.Attribute o m apos) [] [] pos) (tMeth (He.ga X.K c) m sp [] E0 ta tNil) :=
  let ⟨_, F', b, _⟩ := F
  pe_meth0 he hc hm F' hr b .nil pass0 ht
/-- the module's constants -/
theorem pe_gS {z : Str} (h : ∃ t, X.mg x = some (.str z t)) (hg : Gl X x := by rfl) (hd : (x == ("__debug__" : Str)) = false := by decide) : PE X (.Name x pos) (tC (.str z)) :=
  let ⟨t, e⟩ := h
  pe_glob hg e ⟨t, rfl⟩ hd
theorem pe_gI {z : Int} (h : ∃ t, X.mg x = some (.int z t)) (hg : Gl X x := by rfl) (hd : (x == ("__debug__" : Str)) = false := by decide) : PE X (.Name x pos) (tC (.int z)) :=
  let ⟨t, e⟩ := h
  pe_glob hg e ⟨t, rfl⟩ hd
theorem pe_gR (h : X.mg x = some (.ref (He.ga X.K x))) (hg : Gl X x := by rfl) (hd : (x == ("__debug__" : Str)) = false := by decide) : PE X (.Name x pos) (tC (.ref (He.ga X.K x))) := pe_glob hg h rfl hd
/-- what is never asked -/
def tNo : TE := fun _ _ _ => False
theorem pe_no : PE X e tNo := ⟨fun _ _ _ _ _ _ h => h.elim⟩
end
/-! ### the rules that name the written part, told of a K of one's own -/
section
variable (K : Frag) {X : Cx}
theorem ix_tupK (hK : X.K = K := by rfl) : IxR X (rIxT K) := hK ▸ ix_tup
theorem ix_listK (hK : X.K = K := by rfl) : IxR X (rIxL K) := hK ▸ ix_list
theorem op_eqDK (hu : X.A.units + 64 < cLine) (hK : X.K = K := by rfl) : OpR X (compareOp .Eq) (rEqD K) := hK ▸ op_eqD hu
theorem op_neDK (hu : X.A.units + 64 < cLine) (hK : X.K = K := by rfl) : OpR X (compareOp .NotEq) (rNeD K) := hK ▸ op_neD hu
theorem op_in_seqK (hK : X.K = K := by rfl) : OpR X (compareOp .In) (rIn K false) := hK ▸ op_in_seq
theorem op_notIn_seqK (hK : X.K = K := by rfl) : OpR X (compareOp .NotIn) (rIn K true) := hK ▸ op_notIn_seq
theorem op_catTK (hK : X.K = K := by rfl) : OpR X (binaryOp .Add) (rCatT K) := hK ▸ op_catT
theorem sl_tupK (hK : X.K = K := by rfl) : SlR X (rSlT K) := hK ▸ sl_tup
theorem sl_listK (hK : X.K = K := by rfl) : SlR X (rSlL K) := hK ▸ sl_list
theorem op_isNn : OpR X (compareOp .Is) rIsNn := op_isN
def rLenK : List V → Hp → VK → Prop := fun xs H Q => ∃ p ys, xs = [.ref p] ∧ (SqL K H p ys ∨ SqT K H p ys) ∧ Q (.int ys.length) H
theorem call_lenK (hK : X.K = K := by rfl) : CallR X (.builtin "len") (rLenK K) := by
  subst hK
  exact call_len_seq
def rTupK : List V → Hp → VK → Prop := fun xs H Q => ∃ p ys, xs = [.ref p] ∧ ((SqL K H p ys ∧ ∀ l, H l = none → Q (.ref l) (upd H l (.tup ys))) ∨ (SqT K H p ys ∧ Q (.ref p) H))
theorem call_tupleK (hK : X.K = K := by rfl) : CallR X (.type "tuple") (rTupK K) := by
  subst hK
  exact call_tuple_of
def rListK : List V → Hp → VK → Prop := fun xs H Q => ∃ p ys, xs = [.ref p] ∧ (SqL K H p ys ∨ SqT K H p ys) ∧ ∀ l, H l = none → Q (.ref l) (upd H l (.lst ys))
theorem call_listK (hK : X.K = K := by rfl) : CallR X (.type "list") (rListK K) := by
  subst hK
  exact call_list_of
theorem call_isiK' (hK : X.K = K := by rfl) : CallR X (.builtin "isinstance") (rIsi K) := hK ▸ call_isi
theorem call_isiTK (hK : X.K = K := by rfl) : CallR X (.builtin "isinstance") (rIsiT K) := hK ▸ call_isiT
theorem pi_listK {tg l : Expr} {tl : TE} (hl : PE X l tl) (hK : X.K = K := by rfl) : PI X tg l (iList K tl) := hK ▸ pi_list hl
theorem pi_tupK {tg l : Expr} {tl : TE} (hl : PE X l tl) (hK : X.K = K := by rfl) : PI X tg l (iTup K tl) := hK ▸ pi_tup hl
theorem pg_tupK {es : List Expr} {k : Nat} {t : TGs} {n : Nat} {pos : Pos} (hc : X.calm = true) (h : PGs X es t) (hK : X.K = K := by rfl)
    (hn : (assignEach es X.env).length = n := by rfl) (hst : (assignEach es X.env).findIdx? (·.1) = none := by rfl) : PG X (.Tuple es k pos) (gTup K n t) := hK ▸ pg_tup hc h hn hst
theorem pe_fldK {e : Expr} {f : Str} {pos : Pos} {ta : TE} (he : PE X e ta) (hb : attributeBase e f X.env (eval e X.env) = eval e X.env) (hK : X.K = K := by rfl) : PE X (.Attribute e f pos) (tFld K ta f) := hK ▸ pe_fld he hb
theorem ps_fldK {o value : Expr} {f : Str} {pos pos' : Pos} {ta tv : TE} (ha : PE X o ta) (hv : PE X value tv) (hs : swapsWith value (some (.Attribute o f pos')) pos.line X.env = pure false) (hK : X.K = K := by rfl) : PS X (.Assign [.Attribute o f pos'] value pos) (sFld K ta tv f) := hK ▸ ps_fld ha hv hs
theorem ps_fldaugK {o value : Expr} {f : Str} {pos tpos : Pos} {ta tv : TE} {op : Operator} {rd : V → V → Hp → VK → Prop} (ha : PE X o ta) (hv : PE X value tv) (hop : InOp X op rd) (hK : X.K = K := by rfl) : PS X (.AugAssign (.Attribute o f tpos) op value pos) (sFldAug K ta tv rd f) := hK ▸ ps_fldaug ha hv hop
theorem pe_bmK {o e : Expr} {es : List Expr} {to : TE} {t : TA} {name : Str} {apos cpos : Pos} {T id : String} {r : V → List V → Hp → VK → Prop} (pa : PlainAttrs T) (slot : Slot T name id) (hty : typeOf (.builtin id) = pure (.type "method_descriptor")) (hm : MtR X id r) (ho : PE X o to) (ha : PA X (e :: es) t) (hK : X.K = K := by rfl)
    (hbase : attributeBase o name X.env (eval o X.env) = eval o X.env := by rfl)
    (hfew : ((backTo cpos (starEach (e :: es) X.env)).all (fun x => !x.1) && (backToKw cpos (keywordEach [] X.env)).all (fun x => x.1.isSome)
      && decide ((e :: es).length + ([] : List Keyword).length + (if ([] : List Keyword).isEmpty then 0 else 1) < 30)) = true := by rfl)
    (hline : (apos.endLine == cpos.line) = true := by rfl) (hs : starEach (e :: es) X.env = (false, eval e X.env) :: starEach es X.env := by rfl) (hplain : (backTo cpos (starEach es X.env)).any (·.1) = false := by rfl) :
    PE X (.Call (.Attribute o name apos) (e :: es) [] cpos) (tBM K T r to t) := hK ▸ pe_bm pa slot hty hm ho ha hbase hfew hline hs hplain
def rJoinK : V → List V → Hp → VK → Prop := fun x xs H Q => ∃ a p, ∃ ys : List Str, x = .str a ∧ xs = [.ref p] ∧ (SqL K H p (ys.map V.str) ∨ SqT K H p (ys.map V.str)) ∧ (ys.map (·.length)).sum + ys.length * a.length ≤ 16777216 ∧ Q (.str (Txt.join a ys)) H
theorem pe_joinK {o e : Expr} {to te : TE} {apos pos : Pos} (ho : PE X o to) (he : PE X e te) (hK : X.K = K := by rfl) (hs : starEach [e] X.env = [(false, eval e X.env)] := by rfl) (hbase : attributeBase o "join" X.env (eval o X.env) = eval o X.env := by rfl) (hline : (apos.endLine == pos.line) = true := by rfl) :
    PE X (.Call (.Attribute o "join" apos) [e] [] pos) (tM1 (rJoinK K) to te) := by
  subst hK
  exact pe_join ho he hs hbase hline
end
section
variable {K : Frag} {W : Wd} {Γ : Gm} {κ : A → Prop}
theorem cd_lenK {x : A} (h : (∃ p ds, x = .o p ds ∧ κ (.d (.int (ds.length : Int)))) ∨ (∃ ds, x = .d (.tuple ds) ∧ κ (.d (.int (ds.length : Int))))) : CD K W Γ (rLenK K) [x] κ := cd_len h
theorem cd_tupleK {p : Addr} {ds : List PyData} (k : κ (.d (.tuple ds))) : CD K W Γ (rTupK K) [.o p ds] κ := cd_tuple k
end
section
variable {K : Frag} {W : Wd} {Γ : Gm} {κ : A → Prop} {te ty : TE}
theorem td_test {b : Bool → Prop} (h : ED K W te Γ fun a => ∃ c, a = .d (.bool c) ∧ b c) : TD K W (tTest te) Γ b := fun σ H Q e s q =>
  h σ H _ e s fun v H1 a r1 s1 ha k => by
    obtain ⟨c, rfl, k⟩ := k
    cases ha
    exact ⟨c, rfl, q c H1 r1 s1 k⟩
theorem td_cond {t : TT} {κ : Bool → Prop} (b : Bool) (h : TD K W t Γ fun c => c = b) (k : κ b) : TD K W t Γ κ := h.mono fun _ e => e ▸ k
/-- {k1: v1, k2: v2, k3: v3}[y] -/
theorem ed_dsel3 {k1 k2 k3 : Str} {v1 v2 v3 : TE} (n12 : k1 ≠ k2) (n13 : k1 ≠ k3) (n23 : k2 ≠ k3)
    (h : ED K W v1 Γ fun a1 => ED K W v2 Γ fun a2 => ED K W v3 Γ fun a3 => ED K W ty Γ fun y => (y = .d (.str k1) ∧ κ a1) ∨ (y = .d (.str k2) ∧ κ a2) ∨ (y = .d (.str k3) ∧ κ a3)) :
    ED K W (tDGet (tDisp [(tC (.str k1), v1), (tC (.str k2), v2), (tC (.str k3), v3)]) ty) Γ κ := fun σ H Q e s q => by
  intro p hp
  have sm := same_new (o := HO.dK []) hp
  have s0 := Wd.same s sm
  have nm : ¬ W.M p := Wd.freshM s hp
  refine h σ _ _ (e.keep s (Ro.of_same sm)) s0 fun x1 H1 a1 r1 s1 ha1 g1 => ?_
  refine g1 σ H1 _ (e.keep s ((Ro.of_same sm).trans r1)) s1 fun x2 H2 a2 r2 s2 ha2 g2 => ?_
  refine g2 σ H2 _ (e.keep s (((Ro.of_same sm).trans r1).trans r2)) s2 fun x3 H3 a3 r3 s3 ha3 g3 => ?_
  have r123 : Ro W (upd H p (.dK [])) H3 := (r1.trans r2).trans r3
  have hp3 : H3 p = some (.dK []) := r123 _ _ nm upd_same
  refine ⟨hp3, [(Sum.inr k1, x1), (Sum.inr k2, x2), (Sum.inr k3, x3)], rfl, by show 3 ≤ 15; decide, ?_⟩
  have kv : mergeK [] [((Sum.inr k1 : Key), x1), (Sum.inr k2, x2), (Sum.inr k3, x3)] = [((Sum.inr k1 : Key), x1), (Sum.inr k2, x2), (Sum.inr k3, x3)] := by
    have e12 : ¬ (Sum.inr k1 : Key) = Sum.inr k2 := fun z => n12 (Sum.inr.inj z)
    have e13 : ¬ (Sum.inr k1 : Key) = Sum.inr k3 := fun z => n13 (Sum.inr.inj z)
    have e23 : ¬ (Sum.inr k2 : Key) = Sum.inr k3 := fun z => n23 (Sum.inr.inj z)
    simp [mergeK, putK, e12, e13, e23]
  rw [kv]
  generalize hkv : [((Sum.inr k1 : Key), x1), (Sum.inr k2, x2), (Sum.inr k3, x3)] = kvs
  have kp : Kp H3 (upd H3 p (.dK kvs)) := fun b ob n z => by
    rw [upd_ne (fun y => by rw [y, hp3] at z; cases z; exact n)]
    exact z
  have s4 : W.S (upd H3 p (.dK kvs)) := W.mono _ _ s3 fun b ob mo z => by
    rw [upd_ne (fun y => by
      rw [y] at mo
      exact mo.elim nm (Wd.freshO s hp))]
    exact z
  have ro4 : Ro W H (upd H3 p (.dK kvs)) := fun b ob bm z => by
    rw [upd_ne (ne_of_none z hp)]
    exact r123 b ob bm (sm b ob z)
  have keep4 : ∀ {v a}, Has K W H3 v a → (∀ q xs, a = .o q xs → H3 q ≠ none → q ≠ p) → Has K W (upd H3 p (.dK kvs)) v a := fun {v a} hh hq => by
    cases a with
    | d x => exact Rt.keep kp hh
    | o q xs =>
      obtain ⟨h1, h2, us, h3, h4⟩ := hh
      refine ⟨h1, h2, us, ?_, h4.keep kp⟩
      rw [upd_ne (fun y => by rw [y, hp3] at h3; cases h3)]
      exact h3
    | v x => exact hh
    | p P => exact fun H2 k2 => hh H2 (kp.trans k2)
  have b1 := keep4 (ha1.keep s1 (r2.trans r3)) (fun q xs _ _ => by
    intro y
    cases ‹a1 = _›
    obtain ⟨_, _, us, h3, _⟩ := ha1.keep s1 (r2.trans r3)
    rw [y, hp3] at h3
    cases h3)
  have b2 := keep4 (ha2.keep s2 r3) (fun q xs _ _ => by
    intro y
    cases ‹a2 = _›
    obtain ⟨_, _, us, h3, _⟩ := ha2.keep s2 r3
    rw [y, hp3] at h3
    cases h3)
  have b3 := keep4 ha3 (fun q xs _ _ => by
    intro y
    cases ‹a3 = _›
    obtain ⟨_, _, us, h3, _⟩ := ha3
    rw [y, hp3] at h3
    cases h3)
  refine g3 σ _ _ (e.keep s ro4) s4 fun y H5 ay r5 s5 hy g => ?_
  have hp5 : H5 p = some (.dK kvs) := r5 _ _ nm upd_same
  have fin : ∀ {k x a}, y = .str k → valV kvs (Sum.inr k) = some x → Has K W (upd H3 p (.dK kvs)) x a → κ a → ∃ b v, V.ref p = .ref b ∧ DGet H5 b y (some v) ∧ Q v H5 := fun {k x a} ey ev hx ka => by
    subst ey
    refine ⟨p, x, rfl, ?_, q x H5 a (ro4.trans r5) s5 (hx.keep s4 r5) ka⟩
    rw [← ev]
    exact DGet.k (k := Sum.inr k) hp5
  rcases g with ⟨rfl, ka⟩ | ⟨rfl, ka⟩ | ⟨rfl, ka⟩
  · cases hy
    refine fin rfl ?_ b1 ka
    rw [← hkv]
    simp [valV]
  · cases hy
    refine fin rfl ?_ b2 ka
    rw [← hkv]
    have e12 : ¬ (Sum.inr k1 : Key) = Sum.inr k2 := fun z => n12 (Sum.inr.inj z)
    simp [valV, e12]
  · cases hy
    refine fin rfl ?_ b3 ka
    rw [← hkv]
    have e13 : ¬ (Sum.inr k1 : Key) = Sum.inr k3 := fun z => n13 (Sum.inr.inj z)
    have e23 : ¬ (Sum.inr k2 : Key) = Sum.inr k3 := fun z => n23 (Sum.inr.inj z)
    simp [valV, e13, e23]
end
end Q47
set_option maxHeartbeats 4000000
/-! ### the text by places, what the top has written -/
namespace Q47
open PySem L2
open PySem.W (Frag)
open PyProof.Rows (envOfC)
structure Tx (K : Frag) (mg : Str → Option Value) : Prop where
  b_len : mg "len" = none
  b_int : mg "int" = none
  b_range : mg "range" = none
  b_list : mg "list" = none
  b_tuple : mg "tuple" = none
  b_str : mg "str" = none
  b_isinstance : mg "isinstance" = none
  b_sorted : mg "sorted" = none
  b_max : mg "max" = none
  b_enumerate : mg "enumerate" = none
  b_bool : mg "bool" = none
  b_dict : mg "dict" = none
  s_BOX : ∃ t, mg "BOX" = some (.str "box" t)
  s_BREAK : ∃ t, mg "BREAK" = some (.str "break" t)
  s_DIGITS : ∃ t, mg "DIGITS" = some (.str "0123456789" t)
  s_GAP : ∃ t, mg "GAP" = some (.str "gap" t)
  s_GIVE : ∃ t, mg "GIVE" = some (.str "give" t)
  s_GONE : ∃ t, mg "GONE" = some (.str "gone" t)
  s_HAND : ∃ t, mg "HAND" = some (.str "hand" t)
  s_HANDS : ∃ t, mg "HANDS" = some (.str "hands" t)
  s_LOG : ∃ t, mg "LOG" = some (.str "log" t)
  s_PUT : ∃ t, mg "PUT" = some (.str "put" t)
  s_SEAL : ∃ t, mg "SEAL" = some (.str "seal" t)
  s_SEAL_ON : ∃ t, mg "SEAL_ON" = some (.str "seal" t)
  s_TAKE : ∃ t, mg "TAKE" = some (.str "take" t)
  s_THING : ∃ t, mg "THING" = some (.str "thing" t)
  i_MAX_BOXES : ∃ t, mg "MAX_BOXES" = some (.int 3 t)
  i_MAX_HANDS : ∃ t, mg "MAX_HANDS" = some (.int 4 t)
  i_MAX_ROWS : ∃ t, mg "MAX_ROWS" = some (.int 30 t)
  i_MAX_SEALS : ∃ t, mg "MAX_SEALS" = some (.int 3 t)
  i_MAX_THINGS : ∃ t, mg "MAX_THINGS" = some (.int 4 t)
  g_is_number : mg "is_number" = some (.ref (He.ga K "is_number"))
  g_validate_hands : mg "validate_hands" = some (.ref (He.ga K "validate_hands"))
  g_validate_hand : mg "validate_hand" = some (.ref (He.ga K "validate_hand"))
  g_validate_box : mg "validate_box" = some (.ref (He.ga K "validate_box"))
  g_validate_seal : mg "validate_seal" = some (.ref (He.ga K "validate_seal"))
  g_validate_item : mg "validate_item" = some (.ref (He.ga K "validate_item"))
  g_validate_movable : mg "validate_movable" = some (.ref (He.ga K "validate_movable"))
  g_validate_deed : mg "validate_deed" = some (.ref (He.ga K "validate_deed"))
  g_validate_sight : mg "validate_sight" = some (.ref (He.ga K "validate_sight"))
  g_validate_contents : mg "validate_contents" = some (.ref (He.ga K "validate_contents"))
  g_validate_row : mg "validate_row" = some (.ref (He.ga K "validate_row"))
  g_words_of : mg "words_of" = some (.ref (He.ga K "words_of"))
  g_house_rows : mg "house_rows" = some (.ref (He.ga K "house_rows"))
  g_format_log : mg "format_log" = some (.ref (He.ga K "format_log"))
  g_is_number_word : mg "is_number_word" = some (.ref (He.ga K "is_number_word"))
  g_lines_of : mg "lines_of" = some (.ref (He.ga K "lines_of"))
  g_read_house : mg "read_house" = some (.ref (He.ga K "read_house"))
  g_read_row : mg "read_row" = some (.ref (He.ga K "read_row"))
  g_parse_log : mg "parse_log" = some (.ref (He.ga K "parse_log"))
  g__law_mix : mg "_law_mix" = some (.ref (He.ga K "_law_mix"))
  g__law_next : mg "_law_next" = some (.ref (He.ga K "_law_next"))
  g__law_alike : mg "_law_alike" = some (.ref (He.ga K "_law_alike"))
  g__law_place : mg "_law_place" = some (.ref (He.ga K "_law_place"))
  g__law_moved : mg "_law_moved" = some (.ref (He.ga K "_law_moved"))
  g__law_lid : mg "_law_lid" = some (.ref (He.ga K "_law_lid"))
  g__law_inside : mg "_law_inside" = some (.ref (He.ga K "_law_inside"))
  g__law_items : mg "_law_items" = some (.ref (He.ga K "_law_items"))
  g__law_drawn : mg "_law_drawn" = some (.ref (He.ga K "_law_drawn"))
  g__law_house : mg "_law_house" = some (.ref (He.ga K "_law_house"))
  g__law_may : mg "_law_may" = some (.ref (He.ga K "_law_may"))
  g__law_done : mg "_law_done" = some (.ref (He.ga K "_law_done"))
  g__law_known : mg "_law_known" = some (.ref (He.ga K "_law_known"))
  g__law_true : mg "_law_true" = some (.ref (He.ga K "_law_true"))
  g__law_sight : mg "_law_sight" = some (.ref (He.ga K "_law_sight"))
  g__law_rows : mg "_law_rows" = some (.ref (He.ga K "_law_rows"))
  g__law_words : mg "_law_words" = some (.ref (He.ga K "_law_words"))
  g__law_lines : mg "_law_lines" = some (.ref (He.ga K "_law_lines"))
  g_law : mg "law" = some (.ref (He.ga K "law"))
  g_House : mg "House" = some (.ref (He.ga K "House"))
  g_Log : mg "Log" = some (.ref (He.ga K "Log"))
  g_Line : mg "Line" = some (.ref (He.ga K "Line"))
  g_DEEDS : mg "DEEDS" = some (.ref (He.ga K "DEEDS"))
  g_PARTS : mg "PARTS" = some (.ref (He.ga K "PARTS"))
  g_ROWS : mg "ROWS" = some (.ref (He.ga K "ROWS"))
  g_SIGHTS : mg "SIGHTS" = some (.ref (He.ga K "SIGHTS"))
  g_FORMS : mg "FORMS" = some (.ref (He.ga K "FORMS"))
  c_House : Cls K (He.ga K "House")
  m_House : Mk K (He.ga K "House") (He.fAd K ("House", some "__init__"))
  n_House_hand_count : NoAttr K (He.ga K "House") "hand_count"
  n_House_box_places : NoAttr K (He.ga K "House") "box_places"
  n_House_thing_places : NoAttr K (He.ga K "House") "thing_places"
  n_House_seal_places : NoAttr K (He.ga K "House") "seal_places"
  m_House___init__ : Meth K (He.ga K "House") "__init__" (He.fAd K ("House", some "__init__"))
  m_House_validate_places : Meth K (He.ga K "House") "validate_places" (He.fAd K ("House", some "validate_places"))
  m_House_is_place : Meth K (He.ga K "House") "is_place" (He.fAd K ("House", some "is_place"))
  m_House___contains__ : Meth K (He.ga K "House") "__contains__" (He.fAd K ("House", some "__contains__"))
  m_House___eq__ : Meth K (He.ga K "House") "__eq__" (He.fAd K ("House", some "__eq__"))
  c_Log : Cls K (He.ga K "Log")
  m_Log : Mk K (He.ga K "Log") (He.fAd K ("Log", some "__init__"))
  n_Log_own_house : NoAttr K (He.ga K "Log") "own_house"
  n_Log_own_rows : NoAttr K (He.ga K "Log") "own_rows"
  m_Log___init__ : Meth K (He.ga K "Log") "__init__" (He.fAd K ("Log", some "__init__"))
  m_Log___eq__ : Meth K (He.ga K "Log") "__eq__" (He.fAd K ("Log", some "__eq__"))
  c_Line : Cls K (He.ga K "Line")
  m_Line : Mk K (He.ga K "Line") (He.fAd K ("Line", some "__init__"))
  n_Line_number : NoAttr K (He.ga K "Line") "number"
  n_Line_words : NoAttr K (He.ga K "Line") "words"
  n_Line_at : NoAttr K (He.ga K "Line") "at"
  m_Line___init__ : Meth K (He.ga K "Line") "__init__" (He.fAd K ("Line", some "__init__"))
  m_Line_is_over : Meth K (He.ga K "Line") "is_over" (He.fAd K ("Line", some "is_over"))
  m_Line_take_word : Meth K (He.ga K "Line") "take_word" (He.fAd K ("Line", some "take_word"))
  m_Line_take_number : Meth K (He.ga K "Line") "take_number" (He.fAd K ("Line", some "take_number"))
  m_Line_take_pair : Meth K (He.ga K "Line") "take_pair" (He.fAd K ("Line", some "take_pair"))
  m_Line_take_many : Meth K (He.ga K "Line") "take_many" (He.fAd K ("Line", some "take_many"))
  m_Line_take_part : Meth K (He.ga K "Line") "take_part" (He.fAd K ("Line", some "take_part"))
  m_Line_take_row : Meth K (He.ga K "Line") "take_row" (He.fAd K ("Line", some "take_row"))
  m_Line_end : Meth K (He.ga K "Line") "end" (He.fAd K ("Line", some "end"))
  t_DEEDS : ∀ H, SqT K H (He.ga K "DEEDS") ((["break", "give", "put", "seal", "take"] : List Str).map V.str)
  t_PARTS : ∀ H, SqT K H (He.ga K "PARTS") ((["box", "thing", "seal", "log"] : List Str).map V.str)
  t_ROWS : ∀ H, SqT K H (He.ga K "ROWS") ((["give", "put", "take", "seal", "break", "at", "bare", "in", "gone", "not", "gap"] : List Str).map V.str)
  t_SIGHTS : ∀ H, SqT K H (He.ga K "SIGHTS") ((["at", "bare", "in", "gone"] : List Str).map V.str)
  d_is_number : ∃ fd, FunD K "is_number" "is_number" (defArgs (topS 22)) (defBody (topS 22)) (defScope (topS 22)) [] [] (He.fAd K ("is_number", none)) fd
  d_validate_hands : ∃ fd, FunD K "validate_hands" "validate_hands" (defArgs (topS 24)) (defBody (topS 24)) (defScope (topS 24)) [] [] (He.fAd K ("validate_hands", none)) fd
  d_validate_hand : ∃ fd, FunD K "validate_hand" "validate_hand" (defArgs (topS 32)) (defBody (topS 32)) (defScope (topS 32)) [] [] (He.fAd K ("validate_hand", none)) fd
  d_validate_box : ∃ fd, FunD K "validate_box" "validate_box" (defArgs (topS 33)) (defBody (topS 33)) (defScope (topS 33)) [] [] (He.fAd K ("validate_box", none)) fd
  d_validate_seal : ∃ fd, FunD K "validate_seal" "validate_seal" (defArgs (topS 34)) (defBody (topS 34)) (defScope (topS 34)) [] [] (He.fAd K ("validate_seal", none)) fd
  d_validate_item : ∃ fd, FunD K "validate_item" "validate_item" (defArgs (topS 35)) (defBody (topS 35)) (defScope (topS 35)) [] [] (He.fAd K ("validate_item", none)) fd
  d_validate_movable : ∃ fd, FunD K "validate_movable" "validate_movable" (defArgs (topS 36)) (defBody (topS 36)) (defScope (topS 36)) [] [] (He.fAd K ("validate_movable", none)) fd
  d_validate_deed : ∃ fd, FunD K "validate_deed" "validate_deed" (defArgs (topS 37)) (defBody (topS 37)) (defScope (topS 37)) [] [] (He.fAd K ("validate_deed", none)) fd
  d_validate_sight : ∃ fd, FunD K "validate_sight" "validate_sight" (defArgs (topS 38)) (defBody (topS 38)) (defScope (topS 38)) [] [] (He.fAd K ("validate_sight", none)) fd
  d_validate_contents : ∃ fd, FunD K "validate_contents" "validate_contents" (defArgs (topS 39)) (defBody (topS 39)) (defScope (topS 39)) [] [] (He.fAd K ("validate_contents", none)) fd
  d_validate_row : ∃ fd, FunD K "validate_row" "validate_row" (defArgs (topS 40)) (defBody (topS 40)) (defScope (topS 40)) [] [] (He.fAd K ("validate_row", none)) fd
  d_words_of : ∃ fd, FunD K "words_of" "words_of" (defArgs (topS 53)) (defBody (topS 53)) (defScope (topS 53)) [] [] (He.fAd K ("words_of", none)) fd
  d_house_rows : ∃ fd, FunD K "house_rows" "house_rows" (defArgs (topS 54)) (defBody (topS 54)) (defScope (topS 54)) [] [] (He.fAd K ("house_rows", none)) fd
  d_format_log : ∃ fd, FunD K "format_log" "format_log" (defArgs (topS 55)) (defBody (topS 55)) (defScope (topS 55)) [] [] (He.fAd K ("format_log", none)) fd
  d_is_number_word : ∃ fd, FunD K "is_number_word" "is_number_word" (defArgs (topS 56)) (defBody (topS 56)) (defScope (topS 56)) [] [] (He.fAd K ("is_number_word", none)) fd
  d_lines_of : ∃ fd, FunD K "lines_of" "lines_of" (defArgs (topS 58)) (defBody (topS 58)) (defScope (topS 58)) [] [] (He.fAd K ("lines_of", none)) fd
  d_read_house : ∃ fd, FunD K "read_house" "read_house" (defArgs (topS 59)) (defBody (topS 59)) (defScope (topS 59)) [] [] (He.fAd K ("read_house", none)) fd
  d_read_row : ∃ fd, FunD K "read_row" "read_row" (defArgs (topS 60)) (defBody (topS 60)) (defScope (topS 60)) [] [] (He.fAd K ("read_row", none)) fd
  d_parse_log : ∃ fd, FunD K "parse_log" "parse_log" (defArgs (topS 61)) (defBody (topS 61)) (defScope (topS 61)) [] [] (He.fAd K ("parse_log", none)) fd
  d__law_mix : ∃ fd, FunD K "_law_mix" "_law_mix" (defArgs (topS 63)) (defBody (topS 63)) (defScope (topS 63)) [] [] (He.fAd K ("_law_mix", none)) fd
  d__law_next : ∃ fd, FunD K "_law_next" "_law_next" (defArgs (topS 64)) (defBody (topS 64)) (defScope (topS 64)) [] [] (He.fAd K ("_law_next", none)) fd
  d__law_alike : ∃ fd, FunD K "_law_alike" "_law_alike" (defArgs (topS 65)) (defBody (topS 65)) (defScope (topS 65)) [] [] (He.fAd K ("_law_alike", none)) fd
  d__law_place : ∃ fd, FunD K "_law_place" "_law_place" (defArgs (topS 66)) (defBody (topS 66)) (defScope (topS 66)) [] [] (He.fAd K ("_law_place", none)) fd
  d__law_moved : ∃ fd, FunD K "_law_moved" "_law_moved" (defArgs (topS 67)) (defBody (topS 67)) (defScope (topS 67)) [] [] (He.fAd K ("_law_moved", none)) fd
  d__law_lid : ∃ fd, FunD K "_law_lid" "_law_lid" (defArgs (topS 68)) (defBody (topS 68)) (defScope (topS 68)) [] [] (He.fAd K ("_law_lid", none)) fd
  d__law_inside : ∃ fd, FunD K "_law_inside" "_law_inside" (defArgs (topS 69)) (defBody (topS 69)) (defScope (topS 69)) [] [] (He.fAd K ("_law_inside", none)) fd
  d__law_items : ∃ fd, FunD K "_law_items" "_law_items" (defArgs (topS 70)) (defBody (topS 70)) (defScope (topS 70)) [] [] (He.fAd K ("_law_items", none)) fd
  d__law_drawn : ∃ fd, FunD K "_law_drawn" "_law_drawn" (defArgs (topS 71)) (defBody (topS 71)) (defScope (topS 71)) [] [] (He.fAd K ("_law_drawn", none)) fd
  d__law_house : ∃ fd, FunD K "_law_house" "_law_house" (defArgs (topS 72)) (defBody (topS 72)) (defScope (topS 72)) [] [] (He.fAd K ("_law_house", none)) fd
  d__law_may : ∃ fd, FunD K "_law_may" "_law_may" (defArgs (topS 73)) (defBody (topS 73)) (defScope (topS 73)) [] [] (He.fAd K ("_law_may", none)) fd
  d__law_done : ∃ fd, FunD K "_law_done" "_law_done" (defArgs (topS 74)) (defBody (topS 74)) (defScope (topS 74)) [] [] (He.fAd K ("_law_done", none)) fd
  d__law_known : ∃ fd, FunD K "_law_known" "_law_known" (defArgs (topS 75)) (defBody (topS 75)) (defScope (topS 75)) [] [] (He.fAd K ("_law_known", none)) fd
  d__law_true : ∃ fd, FunD K "_law_true" "_law_true" (defArgs (topS 76)) (defBody (topS 76)) (defScope (topS 76)) [] [] (He.fAd K ("_law_true", none)) fd
  d__law_sight : ∃ fd, FunD K "_law_sight" "_law_sight" (defArgs (topS 77)) (defBody (topS 77)) (defScope (topS 77)) [] [] (He.fAd K ("_law_sight", none)) fd
  d__law_rows : ∃ fd, FunD K "_law_rows" "_law_rows" (defArgs (topS 78)) (defBody (topS 78)) (defScope (topS 78)) [] [] (He.fAd K ("_law_rows", none)) fd
  d__law_words : ∃ fd, FunD K "_law_words" "_law_words" (defArgs (topS 79)) (defBody (topS 79)) (defScope (topS 79)) [] [] (He.fAd K ("_law_words", none)) fd
  d__law_lines : ∃ fd, FunD K "_law_lines" "_law_lines" (defArgs (topS 80)) (defBody (topS 80)) (defScope (topS 80)) [] [] (He.fAd K ("_law_lines", none)) fd
  d_law : ∃ fd, FunD K "law" "law" (defArgs (topS 81)) (defBody (topS 81)) (defScope (topS 81)) [] [] (He.fAd K ("law", none)) fd
  d_House___init__ : ∃ fd, FunD K "__init__" "House.__init__" (defArgs (inClass (topS 23) 0)) (defBody (inClass (topS 23) 0)) (defScope (inClass (topS 23) 0)) [] [] (He.fAd K ("House", some "__init__")) fd
  d_House_validate_places : ∃ fd, FunD K "validate_places" "House.validate_places" (defArgs (inClass (topS 23) 1)) (defBody (inClass (topS 23) 1)) (defScope (inClass (topS 23) 1)) [] [] (He.fAd K ("House", some "validate_places")) fd
  d_House_is_place : ∃ fd, FunD K "is_place" "House.is_place" (defArgs (inClass (topS 23) 2)) (defBody (inClass (topS 23) 2)) (defScope (inClass (topS 23) 2)) [] [] (He.fAd K ("House", some "is_place")) fd
  d_House___contains__ : ∃ fd, FunD K "__contains__" "House.__contains__" (defArgs (inClass (topS 23) 9)) (defBody (inClass (topS 23) 9)) (defScope (inClass (topS 23) 9)) [] [] (He.fAd K ("House", some "__contains__")) fd
  d_House___eq__ : ∃ fd, FunD K "__eq__" "House.__eq__" (defArgs (inClass (topS 23) 10)) (defBody (inClass (topS 23) 10)) (defScope (inClass (topS 23) 10)) [] [] (He.fAd K ("House", some "__eq__")) fd
  d_Log___init__ : ∃ fd, FunD K "__init__" "Log.__init__" (defArgs (inClass (topS 44) 0)) (defBody (inClass (topS 44) 0)) (defScope (inClass (topS 44) 0)) [] [] (He.fAd K ("Log", some "__init__")) fd
  d_Log___eq__ : ∃ fd, FunD K "__eq__" "Log.__eq__" (defArgs (inClass (topS 44) 9)) (defBody (inClass (topS 44) 9)) (defScope (inClass (topS 44) 9)) [] [] (He.fAd K ("Log", some "__eq__")) fd
  d_Line___init__ : ∃ fd, FunD K "__init__" "Line.__init__" (defArgs (inClass (topS 57) 0)) (defBody (inClass (topS 57) 0)) (defScope (inClass (topS 57) 0)) [] [] (He.fAd K ("Line", some "__init__")) fd
  d_Line_is_over : ∃ fd, FunD K "is_over" "Line.is_over" (defArgs (inClass (topS 57) 2)) (defBody (inClass (topS 57) 2)) (defScope (inClass (topS 57) 2)) [] [] (He.fAd K ("Line", some "is_over")) fd
  d_Line_take_word : ∃ fd, FunD K "take_word" "Line.take_word" (defArgs (inClass (topS 57) 3)) (defBody (inClass (topS 57) 3)) (defScope (inClass (topS 57) 3)) [] [] (He.fAd K ("Line", some "take_word")) fd
  d_Line_take_number : ∃ fd, FunD K "take_number" "Line.take_number" (defArgs (inClass (topS 57) 4)) (defBody (inClass (topS 57) 4)) (defScope (inClass (topS 57) 4)) [] [] (He.fAd K ("Line", some "take_number")) fd
  d_Line_take_pair : ∃ fd, FunD K "take_pair" "Line.take_pair" (defArgs (inClass (topS 57) 5)) (defBody (inClass (topS 57) 5)) (defScope (inClass (topS 57) 5)) [] [] (He.fAd K ("Line", some "take_pair")) fd
  d_Line_take_many : ∃ fd, FunD K "take_many" "Line.take_many" (defArgs (inClass (topS 57) 6)) (defBody (inClass (topS 57) 6)) (defScope (inClass (topS 57) 6)) [] [] (He.fAd K ("Line", some "take_many")) fd
  d_Line_take_part : ∃ fd, FunD K "take_part" "Line.take_part" (defArgs (inClass (topS 57) 7)) (defBody (inClass (topS 57) 7)) (defScope (inClass (topS 57) 7)) [] [] (He.fAd K ("Line", some "take_part")) fd
  d_Line_take_row : ∃ fd, FunD K "take_row" "Line.take_row" (defArgs (inClass (topS 57) 8)) (defBody (inClass (topS 57) 8)) (defScope (inClass (topS 57) 8)) [] [] (He.fAd K ("Line", some "take_row")) fd
  d_Line_end : ∃ fd, FunD K "end" "Line.end" (defArgs (inClass (topS 57) 9)) (defBody (inClass (topS 57) 9)) (defScope (inClass (topS 57) 9)) [] [] (He.fAd K ("Line", some "end")) fd
  p_House_hands : ∃ p g fd, PropOf K (He.ga K "House") "hands" p g ∧ FunD K "hands" "House.hands" (defArgs (inClass (topS 23) 3)) (defBody (inClass (topS 23) 3)) (defScope (inClass (topS 23) 3)) [] [] g fd
  p_House_boxes : ∃ p g fd, PropOf K (He.ga K "House") "boxes" p g ∧ FunD K "boxes" "House.boxes" (defArgs (inClass (topS 23) 4)) (defBody (inClass (topS 23) 4)) (defScope (inClass (topS 23) 4)) [] [] g fd
  p_House_things : ∃ p g fd, PropOf K (He.ga K "House") "things" p g ∧ FunD K "things" "House.things" (defArgs (inClass (topS 23) 5)) (defBody (inClass (topS 23) 5)) (defScope (inClass (topS 23) 5)) [] [] g fd
  p_House_seals : ∃ p g fd, PropOf K (He.ga K "House") "seals" p g ∧ FunD K "seals" "House.seals" (defArgs (inClass (topS 23) 6)) (defBody (inClass (topS 23) 6)) (defScope (inClass (topS 23) 6)) [] [] g fd
  p_House_state : ∃ p g fd, PropOf K (He.ga K "House") "state" p g ∧ FunD K "state" "House.state" (defArgs (inClass (topS 23) 7)) (defBody (inClass (topS 23) 7)) (defScope (inClass (topS 23) 7)) [] [] g fd
  p_Log_house : ∃ p g fd, PropOf K (He.ga K "Log") "house" p g ∧ FunD K "house" "Log.house" (defArgs (inClass (topS 44) 1)) (defBody (inClass (topS 44) 1)) (defScope (inClass (topS 44) 1)) [] [] g fd
  p_Log_rows : ∃ p g fd, PropOf K (He.ga K "Log") "rows" p g ∧ FunD K "rows" "Log.rows" (defArgs (inClass (topS 44) 2)) (defBody (inClass (topS 44) 2)) (defScope (inClass (topS 44) 2)) [] [] g fd

theorem kk {CX : CXT} {P : Program} {w : World} {K : Frag} {mg : Str → Option Value} {base : Heap} {N : List Str} {qual : Str} {scope : Scope} {f : Addr} {cd : Value} {A : Around} {outer : List PySem.Env} {s : Shared} {H : Hp} {E : XK} :
    (cxOf CX P w K mg base N qual scope f cd A outer s H E).nox.K = K := rfl
section
variable {P : Program} {w : World} {K : Frag} {mg : Str → Option Value} {base : Heap} {x qual : Str} {params : Arguments} {body : List Stmt} {scope : Scope} {at_ : Str × Option Str} {N ps : List Str} {k : Nat}
/-- a def keeps its promise by data -/
theorem okD {pre : Wd → List A → (A → Prop) → Prop} (F : ∃ fd, FunD K x qual params body scope [] [] (He.fAd K at_) fd) (S : FnScope N ps scope)
    (h : ∀ (kV doc pm : Value) (an : Option Addr) (cdv ct : Value) (us : List Value), us.length = ps.length → bindArgs (PySem.W.fnOf x qual params body scope .none kV doc pm an cdv ct) ⟨us, []⟩ = pure (ps.zip us))
    (hl : ∀ W as κ, pre W as κ → as.length = ps.length) (hp : ∀ W as κ H, pre W as κ → pre (W.at H) as κ)
    (hb : ∀ (f : Addr) (cdv : Value) (A : Around) (outer : List Env) (s : Shared) (H : Hp) (E : XK), Room k (A.deeper (envOfC qual scope s.heap.objs.size f cdv)) → ∀ W as κ, pre W as κ →
      ∃ t, PSs (cxOf CX0 P w K mg base N qual scope f cdv A outer s H E).nox body t ∧ SD K W t (startG N as) (fun _ => κ (.d .none)) (Out W κ)) : Ok P w K mg base (k + 1) at_ ps (spD K pre) := by
  obtain ⟨fd, F⟩ := F
  exact ⟨fd, fnD F S hl hp (hb _), F.bindsN h, F.kp⟩
/-- by heaps -/
theorem okH {sp : Sp} (F : ∃ fd, FunD K x qual params body scope [] [] (He.fAd K at_) fd) (S : FnScope N ps scope)
    (h : ∀ (kV doc pm : Value) (an : Option Addr) (cdv ct : Value) (us : List Value), us.length = ps.length → bindArgs (PySem.W.fnOf x qual params body scope .none kV doc pm an cdv ct) ⟨us, []⟩ = pure (ps.zip us))
    (hl : ∀ vs H Q E, sp vs H Q E → vs.length = ps.length)
    (hb : ∀ (f : Addr) (cdv : Value) (A : Around) (outer : List Env) (s : Shared) (H : Hp) (E : XK), Room k (A.deeper (envOfC qual scope s.heap.objs.size f cdv)) → ∀ vs Q, sp vs H Q E →
      ∃ t, PSs (cxOf CX0 P w K mg base N qual scope f cdv A outer s H E).nox body t ∧ t { nx := fun _ H' => Q .non H', rt := Q } (L2.start N vs) H) : Ok P w K mg base (k + 1) at_ ps sp := by
  obtain ⟨fd, F⟩ := F
  refine ⟨fd, F.ok S hl fun cdv A outer s H vs Q E hr hs => ?_, F.bindsN h, F.kp⟩
  obtain ⟨t, h1, h2⟩ := hb _ cdv A outer s H E hr vs Q hs
  exact ⟨t, h1.nox, h2⟩
end
end Q47
set_option maxHeartbeats 4000000
/-! ### houses, states, deeds, sights, rows -/
namespace Q47
open PySem L2
inductive Kd | box | sl | thing
deriving DecidableEq
def Kd.w : Kd → Str
  | .box => "box"
  | .sl => "seal"
  | .thing => "thing"
structure It where
  k : Kd
  n : Nat
deriving DecidableEq
inductive Pl | hand (n : Nat) | box (n : Nat) | gone
deriving DecidableEq
def Pl.w : Pl → Str
  | .hand _ => "hand"
  | .box _ => "box"
  | .gone => "gone"
def Pl.n : Pl → Nat
  | .hand n => n
  | .box n => n
  | .gone => 0
abbrev It.e (i : It) : PyData := .tuple [.str i.k.w, .int (i.n : Int)]
abbrev Pl.e (p : Pl) : PyData := .tuple [.str p.w, .int (p.n : Int)]
structure Hs where
  hands : Nat
  boxes : List Pl
  things : List Pl
  seals : List Pl
structure Stt where
  boxes : List Pl
  things : List Pl
  seals : List Pl
abbrev plsE (l : List Pl) : PyData := .tuple (l.map Pl.e)
abbrev Hs.e (h : Hs) : PyData := .tuple [.int (h.hands : Int), plsE h.boxes, plsE h.things, plsE h.seals]
abbrev Stt.e (s : Stt) : PyData := .tuple [plsE s.boxes, plsE s.things, plsE s.seals]
abbrev Hs.st (h : Hs) : Stt := ⟨h.boxes, h.things, h.seals⟩
def Stt.row (s : Stt) : Kd → List Pl
  | .box => s.boxes
  | .thing => s.things
  | .sl => s.seals
def Stt.at_ (s : Stt) (i : It) : Option Pl := (s.row i.k)[i.n]?
inductive Dd
  | give (h : Nat) (i : It) (o : Nat)
  | put (h : Nat) (i : It) (b : Nat)
  | take (h : Nat) (i : It) (b : Nat)
  | sl (h b s : Nat)
  | brk (h b : Nat)
def Dd.e : Dd → PyData
  | .give h i o => .tuple [.str "give", .int (h : Int), i.e, .int (o : Int)]
  | .put h i b => .tuple [.str "put", .int (h : Int), i.e, .int (b : Int)]
  | .take h i b => .tuple [.str "take", .int (h : Int), i.e, .int (b : Int)]
  | .sl h b s => .tuple [.str "seal", .int (h : Int), .int (b : Int), .int (s : Int)]
  | .brk h b => .tuple [.str "break", .int (h : Int), .int (b : Int)]
inductive Sg
  | at_ (i : It) (p : Pl)
  | bare (b : Nat)
  | inn (b : Nat) (is : List It)
  | gone (s : Nat)
abbrev itsE (l : List It) : PyData := .tuple (l.map It.e)
def Sg.e : Sg → PyData
  | .at_ i p => .tuple [.str "at", i.e, p.e]
  | .bare b => .tuple [.str "bare", .int (b : Int)]
  | .inn b is => .tuple [.str "in", .int (b : Int), itsE is]
  | .gone s => .tuple [.str "gone", .int (s : Int)]
abbrev natsE (l : List Nat) : PyData := .tuple (l.map fun n : Nat => .int (n : Int))
inductive Rw
  | deed (d : Dd)
  | sight (s : Sg)
  | nots (s : Sg)
  | gap (hs : List Nat)
def Rw.e : Rw → PyData
  | .deed d => d.e
  | .sight s => s.e
  | .nots s => .tuple [.str "not", s.e]
  | .gap hs => .tuple [.str "gap", natsE hs]
/-! what is well -/
def PlOk (hands boxes : Nat) : Pl → Prop
  | .hand n => n < hands
  | .box n => n < boxes
  | .gone => True
def PlIn (hands boxes : Nat) : Pl → Prop
  | .hand n => n < hands
  | .box n => n < boxes
  | .gone => False
structure HsOk (h : Hs) : Prop where
  h1 : 1 ≤ h.hands
  h3 : h.hands ≤ 3
  b1 : 1 ≤ h.boxes.length
  b2 : h.boxes.length ≤ 2
  t4 : h.things.length ≤ 4
  s3 : h.seals.length ≤ 3
  box : ∀ (i : Nat) p, h.boxes[i]? = some p → PlIn h.hands i p
  thing : ∀ p ∈ h.things, PlIn h.hands h.boxes.length p
  sealp : ∀ p ∈ h.seals, PlIn h.hands h.boxes.length p
  one : ∀ (i j : Nat) b, i < j → h.seals[i]? = some (.box b) → h.seals[j]? ≠ some (.box b)
structure StOk (h : Hs) (s : Stt) : Prop where
  lb : s.boxes.length = h.boxes.length
  lt : s.things.length = h.things.length
  ls : s.seals.length = h.seals.length
  bo : ∀ p ∈ s.boxes, PlOk h.hands h.boxes.length p
  to : ∀ p ∈ s.things, PlOk h.hands h.boxes.length p
  so : ∀ p ∈ s.seals, PlOk h.hands h.boxes.length p
def Hs.cnt (h : Hs) : Kd → Nat
  | .box => h.boxes.length
  | .sl => h.seals.length
  | .thing => h.things.length
def ItOk (h : Hs) (i : It) : Prop := i.n < h.cnt i.k
def DdOk (h : Hs) : Dd → Prop
  | .give x i o => x < h.hands ∧ ItOk h i ∧ o < h.hands ∧ o ≠ x
  | .put x i b => x < h.hands ∧ ItOk h i ∧ i.k ≠ .sl ∧ b < h.boxes.length ∧ i ≠ ⟨.box, b⟩
  | .take x i b => x < h.hands ∧ ItOk h i ∧ i.k ≠ .sl ∧ b < h.boxes.length ∧ i ≠ ⟨.box, b⟩
  | .sl x b s => x < h.hands ∧ b < h.boxes.length ∧ s < h.seals.length
  | .brk x b => x < h.hands ∧ b < h.boxes.length
/-- boxes ahead of things, rising -/
def ItLt (a b : It) : Prop := (a.k = .box ∧ b.k = .thing) ∨ (a.k = b.k ∧ a.n < b.n)
def SgOk (h : Hs) : Sg → Prop
  | .at_ i p => ItOk h i ∧ PlIn h.hands h.boxes.length p
  | .bare b => b < h.boxes.length
  | .inn b is => b < h.boxes.length ∧ (∀ i ∈ is, ItOk h i ∧ i.k ≠ .sl) ∧ (∀ (m : Nat) i j, is[m]? = some i → is[m + 1]? = some j → ItLt i j) ∧ is.length ≤ 6
  | .gone s => s < h.seals.length
def RwOk (h : Hs) : Rw → Prop
  | .deed d => DdOk h d
  | .sight s => SgOk h s
  | .nots s => SgOk h s
  | .gap hs => (∀ x ∈ hs, x < h.hands) ∧ (∀ (m : Nat) i j, hs[m]? = some i → hs[m + 1]? = some j → i < j) ∧ hs.length ≤ 4
/-! shapes -/
def Shp (n : Nat) (d : PyData) : Prop := d.canLay0 = true ∧ d.depth ≤ n
theorem Shp.ok {n : Nat} {d : PyData} (h : Shp n d) (hn : n ≤ 64 := by decide) : SeqAt.shaped d = true := by
  unfold SeqAt.shaped
  rw [h.1, decide_eq_true (Nat.le_trans h.2 hn)]
  rfl
theorem shp_int (i : Int) : Shp 0 (.int i) := ⟨by simp [PyData.canLay0], by simp [PyData.depth]⟩
theorem shp_bool (b : Bool) : Shp 0 (.bool b) := ⟨by simp [PyData.canLay0], by simp [PyData.depth]⟩
theorem shp_str {x : Str} (h : PyData.strOk x = true) : Shp 0 (.str x) := ⟨by simpa [PyData.canLay0] using h, by simp [PyData.depth]⟩
theorem Shp.mono {n m : Nat} {d : PyData} (h : Shp n d) (k : n ≤ m) : Shp m d := ⟨h.1, Nat.le_trans h.2 k⟩
theorem shpAll {n : Nat} : ∀ {ds : List PyData}, (∀ d ∈ ds, Shp n d) → PyData.canLayAll0 ds = true ∧ PyData.depthAll ds ≤ n
  | [], _ => ⟨by simp [PyData.canLayAll0], by simp [PyData.depthAll]⟩
  | d :: ds, h => by
    obtain ⟨h1, h2⟩ := h d List.mem_cons_self
    obtain ⟨h3, h4⟩ := shpAll (ds := ds) fun x hx => h x (List.mem_cons_of_mem _ hx)
    refine ⟨by simp only [PyData.canLayAll0, h1, h3, Bool.and_self], ?_⟩
    simp only [PyData.depthAll]
    omega
theorem shp_tup {n : Nat} {ds : List PyData} (h : ∀ d ∈ ds, Shp n d) : Shp (n + 1) (.tuple ds) := by
  obtain ⟨h1, h2⟩ := shpAll h
  exact ⟨by simpa only [PyData.canLay0] using h1, by simp only [PyData.depth]; omega⟩
theorem shp_lst {n : Nat} {ds : List PyData} (h : ∀ d ∈ ds, Shp n d) : Shp (n + 1) (.list ds) := by
  obtain ⟨h1, h2⟩ := shpAll h
  exact ⟨by simpa only [PyData.canLay0] using h1, by simp only [PyData.depth]; omega⟩
theorem kd_ok (k : Kd) : PyData.strOk k.w = true := by cases k <;> decide +kernel
theorem pl_ok (p : Pl) : PyData.strOk p.w = true := by
  cases p with
  | hand n => show PyData.strOk "hand" = true; decide +kernel
  | box n => show PyData.strOk "box" = true; decide +kernel
  | gone => show PyData.strOk "gone" = true; decide +kernel
theorem shp_2 {n : Nat} {a b : PyData} (ha : Shp n a) (hb : Shp n b) : Shp (n + 1) (.tuple [a, b]) := shp_tup fun d hd => by
  simp only [List.mem_cons, List.not_mem_nil, or_false] at hd
  rcases hd with rfl | rfl <;> assumption
theorem shp_3 {n : Nat} {a b c : PyData} (ha : Shp n a) (hb : Shp n b) (hc : Shp n c) : Shp (n + 1) (.tuple [a, b, c]) := shp_tup fun d hd => by
  simp only [List.mem_cons, List.not_mem_nil, or_false] at hd
  rcases hd with rfl | rfl | rfl <;> assumption
theorem shp_4 {n : Nat} {a b c e : PyData} (ha : Shp n a) (hb : Shp n b) (hc : Shp n c) (he : Shp n e) : Shp (n + 1) (.tuple [a, b, c, e]) := shp_tup fun d hd => by
  simp only [List.mem_cons, List.not_mem_nil, or_false] at hd
  rcases hd with rfl | rfl | rfl | rfl <;> assumption
theorem shp_it (i : It) : Shp 1 i.e := shp_2 (shp_str (kd_ok _)) (shp_int _)
theorem shp_pl (p : Pl) : Shp 1 p.e := shp_2 (shp_str (pl_ok _)) (shp_int _)
theorem shp_pls (l : List Pl) : Shp 2 (plsE l) := shp_tup fun d hd => by
  obtain ⟨p, _, rfl⟩ := List.mem_map.mp hd
  exact shp_pl p
theorem shp_its (l : List It) : Shp 2 (itsE l) := shp_tup fun d hd => by
  obtain ⟨p, _, rfl⟩ := List.mem_map.mp hd
  exact shp_it p
theorem shp_nats (l : List Nat) : Shp 1 (natsE l) := shp_tup fun d hd => by
  obtain ⟨p, _, rfl⟩ := List.mem_map.mp hd
  exact shp_int _
theorem shp_st (s : Stt) : Shp 3 s.e := shp_3 (shp_pls _) (shp_pls _) (shp_pls _)
theorem shp_hs (h : Hs) : Shp 3 h.e := shp_4 ((shp_int _).mono (by decide)) (shp_pls _) (shp_pls _) (shp_pls _)
theorem shp_dd (d : Dd) : Shp 2 d.e := by
  cases d with
  | give h i o => exact shp_4 ((shp_str (by decide +kernel)).mono (by decide)) ((shp_int _).mono (by decide)) (shp_it i) ((shp_int _).mono (by decide))
  | put h i o => exact shp_4 ((shp_str (by decide +kernel)).mono (by decide)) ((shp_int _).mono (by decide)) (shp_it i) ((shp_int _).mono (by decide))
  | take h i o => exact shp_4 ((shp_str (by decide +kernel)).mono (by decide)) ((shp_int _).mono (by decide)) (shp_it i) ((shp_int _).mono (by decide))
  | sl h b s => exact shp_4 ((shp_str (by decide +kernel)).mono (by decide)) ((shp_int _).mono (by decide)) ((shp_int _).mono (by decide)) ((shp_int _).mono (by decide))
  | brk h b => exact shp_3 ((shp_str (by decide +kernel)).mono (by decide)) ((shp_int _).mono (by decide)) ((shp_int _).mono (by decide))
theorem shp_sg (s : Sg) : Shp 3 s.e := by
  cases s with
  | at_ i p => exact shp_3 ((shp_str (by decide +kernel)).mono (by decide)) ((shp_it i).mono (by decide)) ((shp_pl p).mono (by decide))
  | bare b => exact shp_2 ((shp_str (by decide +kernel)).mono (by decide)) ((shp_int _).mono (by decide))
  | inn b is => exact shp_3 ((shp_str (by decide +kernel)).mono (by decide)) ((shp_int _).mono (by decide)) (shp_its is)
  | gone s => exact shp_2 ((shp_str (by decide +kernel)).mono (by decide)) ((shp_int _).mono (by decide))
theorem shp_rw (r : Rw) : Shp 4 r.e := by
  cases r with
  | deed d => exact (shp_dd d).mono (by decide)
  | sight s => exact (shp_sg s).mono (by decide)
  | nots s => exact shp_2 ((shp_str (by decide +kernel)).mono (by decide)) (shp_sg s)
  | gap hs => exact shp_2 ((shp_str (by decide +kernel)).mono (by decide)) ((shp_nats hs).mono (by decide))
theorem len_ok {n : Nat} {p : Prop} (h : Nat.ble n 100000 = true) (k : p) : n ≤ 100000 ∧ p := ⟨Nat.le_of_ble_eq_true h, k⟩
theorem if_t {c : Bool} {A B : Prop} (h : c = true) (k : A) : if c = true then A else B := by
  rw [if_pos h]
  exact k
theorem if_f {c : Bool} {A B : Prop} (h : c = false) (k : B) : if c = true then A else B := by
  rw [if_neg (by rw [h]; exact Bool.false_ne_true)]
  exact k
theorem if_b {c : Bool} {A B : Prop} (h : c = true → A) (k : c = false → B) : if c = true then A else B := by
  cases c with
  | true => exact if_t rfl (h rfl)
  | false => exact if_f rfl (k rfl)
theorem if_dec {p : Prop} [Decidable p] {A B : Prop} (h1 : p → A) (h2 : ¬ p → B) : if decide p = true then A else B := by
  by_cases h : p
  · rw [if_pos (decide_eq_true h)]
    exact h1 h
  · rw [if_neg (by rw [decide_eq_false h]; exact Bool.false_ne_true)]
    exact h2 h
theorem st_at {h : Hs} {st : Stt} {i : It} (hs : StOk h st) (hi : ItOk h i) : ∃ p, st.at_ i = some p ∧ PlOk h.hands h.boxes.length p := by
  obtain ⟨k, n⟩ := i
  cases k with
  | box =>
    have hn : n < st.boxes.length := by rw [hs.lb]; exact hi
    exact ⟨st.boxes[n], List.getElem?_eq_getElem hn, hs.bo _ (List.getElem_mem hn)⟩
  | thing =>
    have hn : n < st.things.length := by rw [hs.lt]; exact hi
    exact ⟨st.things[n], List.getElem?_eq_getElem hn, hs.to _ (List.getElem_mem hn)⟩
  | sl =>
    have hn : n < st.seals.length := by rw [hs.ls]; exact hi
    exact ⟨st.seals[n], List.getElem?_eq_getElem hn, hs.so _ (List.getElem_mem hn)⟩
/-! == -/
theorem eqv_str {x y : Str} : PyData.eqv (.str x) (.str y) = decide (x = y) := by
  simp only [PyData.eqv]
  rw [Bool.eq_iff_iff]
  simp
theorem eqv_nat {n m : Nat} : PyData.eqv (.int (n : Int)) (.int (m : Int)) = decide (n = m) := by
  simp only [PyData.eqv]
  rw [Bool.eq_iff_iff]
  simp
  omega
theorem eqv_pl (p q : Pl) : PyData.eqv p.e q.e = decide (p = q) := by
  have e : PyData.eqv p.e q.e = (decide (p.w = q.w) && (decide (p.n = q.n) && true)) := by
    unfold Pl.e
    simp only [PyData.eqv, PyData.eqvAll]
    rw [← eqv_nat, ← eqv_str]
    simp only [PyData.eqv]
  rw [e]
  have e1 : ¬ (("hand" : Str) = "box") := by decide +kernel
  have e2 : ¬ (("hand" : Str) = "gone") := by decide +kernel
  have e3 : ¬ (("box" : Str) = "hand") := by decide +kernel
  have e4 : ¬ (("box" : Str) = "gone") := by decide +kernel
  have e5 : ¬ (("gone" : Str) = "hand") := by decide +kernel
  have e6 : ¬ (("gone" : Str) = "box") := by decide +kernel
  cases p <;> cases q <;> (rw [Bool.eq_iff_iff]; simp [Pl.w, Pl.n, e1, e2, e3, e4, e5, e6]) <;> exact decide_eq_true_iff
theorem eqv_it (p q : It) : PyData.eqv p.e q.e = decide (p = q) := by
  have e : PyData.eqv p.e q.e = (decide (p.k.w = q.k.w) && (decide (p.n = q.n) && true)) := by
    unfold It.e
    simp only [PyData.eqv, PyData.eqvAll]
    rw [← eqv_nat, ← eqv_str]
    simp only [PyData.eqv]
  rw [e]
  have hw : decide (p.k.w = q.k.w) = decide (p.k = q.k) := by
    generalize p.k = a
    generalize q.k = b
    cases a <;> cases b <;> decide +kernel
  rw [hw, Bool.and_true]
  obtain ⟨a, m⟩ := p
  obtain ⟨b, n⟩ := q
  rw [Bool.eq_iff_iff]
  simp
end Q47
set_option maxHeartbeats 4000000
/-! ### place, lid, inside, items -/
namespace Q47
open PySem L2
open PySem.W (Frag)
open PyProof.Rows (envOfC)
local macro_rules | `(tactic| walk_at "shp") => `(tactic| first
  | with_reducible exact (shp_int _).ok
  | with_reducible exact (shp_pl _).ok
  | with_reducible exact (shp_bool _).ok
  | with_reducible exact (shp_it _).ok
  | with_reducible exact (shp_str (by decide +kernel)).ok
  | with_reducible exact (shp_2 (shp_str (by decide +kernel)) (shp_int _)).ok
  | with_reducible exact (shp_st _).ok
  | with_reducible exact (shp_dd _).ok
  | with_reducible exact (shp_sg _).ok
  | with_reducible exact (shp_rw _).ok
  | assumption)
local macro_rules | `(tactic| walk_at "ed") => `(tactic| first
  | ((with_reducible refine' ed_var ?hv ?_); (case hv => exact rfl))
  | with_reducible refine ed_int ?_
  | with_reducible refine ed_str ?_
  | with_reducible refine ed_bl ?_
  | with_reducible refine ed_non ?_
  | with_reducible refine edd_cons ?_
  | with_reducible refine edd_nil ?_
  | with_reducible refine eda_cons ?_
  | with_reducible refine eda_nil ?_
  | with_reducible refine ⟨_, rfl, ?_⟩
  | with_reducible refine ⟨_, _, rfl, ?_⟩
  | with_reducible refine ⟨_, _, _, rfl, ?_⟩
  | with_reducible refine ed_tupD ?_
  | with_reducible refine ed_lstD ?_
  | with_reducible refine ed_op ?_
  | with_reducible refine ed_cb ?_
  | with_reducible refine ed_call ?_
  | with_reducible refine ed_and ?_
  | with_reducible refine ed_or ?_
  | with_reducible refine ed_not ?_
  | with_reducible refine ed_if ?_
  | with_reducible refine td_test ?_
  | with_reducible refine td_B ?_
  | with_reducible refine td_and ?_
  | with_reducible refine td_or ?_
  | with_reducible refine td_not ?_
  | with_reducible refine td_yes ?_
  | with_reducible refine rd_I0 ?_
  | with_reducible refine rd_B0 ?_
  | ((with_reducible refine rd_eq ?hx ?hy ?_); (case hx => walk_at "shp"); (case hy => walk_at "shp"))
  | ((with_reducible refine rd_ne ?hx ?hy ?_); (case hx => walk_at "shp"); (case hy => walk_at "shp"))
  | ((with_reducible refine' rd_ixTi ?h0 ?hi ?_); (case h0 => decide); (case hi => exact rfl))
  | ((with_reducible refine len_ok ?hl ?_); (case hl => exact rfl))
  | ((with_reducible refine ed_dsel3 ?a12 ?a13 ?a23 ?_); (case a12 => decide +kernel); (case a13 => decide +kernel); (case a23 => decide +kernel))
  | with_reducible refine fun _ (_ : New _ _ _) => ?_
  | with_reducible refine cd_lenK (.inr ⟨_, rfl, ?_⟩)
  | with_reducible refine cd_lenK (.inl ⟨_, _, rfl, ?_⟩)
  | with_reducible refine cd_tupleK ?_
  | ((with_reducible refine if_t ?hc ?_); (case hc => first | rfl | decide +kernel))
  | ((with_reducible refine if_f ?hc ?_); (case hc => first | rfl | decide +kernel))
  | with_reducible refine sd_par ?_
  | with_reducible refine sd_par3 ?_
  | with_reducible refine sd_next ?_
  | with_reducible refine sd_ret ?_
  | with_reducible refine sd_seq ?_
  | with_reducible refine sd_asg ?_
  | with_reducible refine gd_name ?_
  | with_reducible refine sd_if ?_)
local macro_rules | `(tactic| walk_at "out") => `(tactic| exact ⟨by assumption, fun _ _ z => by cases z⟩)
local macro_rules | `(tactic| walk_at "eds") => `(tactic| repeat walk_at "ed")

section
variable {P : Program} {w : World} {K : Frag} {mg : Str → Option Value} {base : Heap}
theorem map_at {α : Type} {l : List α} {f : α → PyData} {i : Nat} {a : α} (h : l[i]? = some a) : (l.map f)[i]? = some (f a) := by rw [List.getElem?_map, h]; rfl
theorem map_at' {α : Type} {l : List α} {f : α → PyData} {i : Nat} {d : PyData} (h : (l.map f)[i]? = some d) : ∃ a, l[i]? = some a ∧ d = f a := by
  rw [List.getElem?_map] at h
  cases e : l[i]? with
  | none => rw [e] at h; cases h
  | some a => rw [e] at h; cases h; exact ⟨a, rfl, rfl⟩
abbrev s__law_place : Stmt := topS 66
abbrev N__law_place : List Str := ["_law_state", "_law_item"]
theorem sc__law_place : FnScope N__law_place ["_law_state", "_law_item"] (defScope s__law_place) := ⟨rfl, rfl, rfl, by decide +kernel, rfl, by decide +kernel, by decide +kernel⟩
def preP : Wd → List A → (A → Prop) → Prop := fun _ as κ => ∃ (st : Stt) (i : It) (p : Pl), as = [.d st.e, .d i.e] ∧ st.at_ i = some p ∧ κ (.d p.e)
theorem ok_place (T : Tx K mg) : Ok P w K mg base 1 ("_law_place", none) ["_law_state", "_law_item"] (spD K preP) := by
  refine okD T.d__law_place sc__law_place (fun _ _ _ _ _ _ us hl => match us, hl with | [_, _], _ => rfl) (fun _ _ _ ⟨_, _, _, e, _⟩ => by rw [e]; rfl) (fun _ _ _ _ h => h) fun f cdv Ar outer s H E hr W as κ ⟨st, i, p, e, h, k⟩ => ?_
  subst e
  refine ⟨_, (pss_one (ps_ret (pe_ix (ix_tupK K) (pe_ix (ix_tupK K) (pv 0) (pe_dget (hu_of hr) (pe_disp (pps_cons pe_str pe_int (pps_cons pe_str pe_int (pps_cons pe_str pe_int pps_nil))) (by rfl) (by rfl) (fun z => by cases z) (by decide)) (pe_ix (ix_tupK K) (pv 1) pe_int (fun _ _ => rfl)) (fun _ _ => rfl)) (fun _ _ => rfl)) (pe_ix (ix_tupK K) (pv 1) pe_int (fun _ _ => rfl)) (fun _ _ => rfl)))), ?_⟩
  walk_at "eds"
  obtain ⟨kd, n⟩ := i
  cases kd with
  | box =>
    refine .inl ⟨rfl, ?_⟩
    walk_at "eds"
    exact rd_ixT (map_at h) (by walk_at "out")
  | thing =>
    refine .inr (.inl ⟨rfl, ?_⟩)
    walk_at "eds"
    exact rd_ixT (map_at h) (by walk_at "out")
  | sl =>
    refine .inr (.inr ⟨rfl, ?_⟩)
    walk_at "eds"
    exact rd_ixT (map_at h) (by walk_at "out")
/-- where p stands in l -/
def idx (l : List Pl) (p : Pl) (n : Nat) : List Nat := (List.range n).filter fun k => decide (l[k]? = some p)
theorem idx_more (l : List Pl) (p : Pl) (n : Nat) : idx l p (n + 1) = if l[n]? = some p then idx l p n ++ [n] else idx l p n := by
  unfold idx
  rw [List.range_succ, List.filter_append, List.filter_cons]
  by_cases h : l[n]? = some p
  · rw [if_pos h, if_pos (by simpa using h)]
    rfl
  · rw [if_neg h, if_neg (by simpa using h)]
    simp
theorem idx_mem {l : List Pl} {p : Pl} {n k : Nat} (h : k ∈ idx l p n) : k < n ∧ l[k]? = some p := by
  unfold idx at h
  rw [List.mem_filter, List.mem_range] at h
  exact ⟨h.1, by simpa using h.2⟩
/-- the seal of a box -/
def lidOf (st : Stt) (b : Nat) : Option Nat := (idx st.seals (.box b) st.seals.length).head?
theorem lidOf_lt {st : Stt} {b k : Nat} (h : lidOf st b = some k) : k < st.seals.length ∧ st.seals[k]? = some (.box b) := idx_mem (List.mem_of_head? h)
theorem get_iff {l : List Pl} {p : Pl} {i : Nat} (hi : i < l.length) : l[i] = p ↔ l[i]? = some p := by
  rw [List.getElem?_eq_getElem hi]
  exact ⟨fun e => by rw [e], fun e => Option.some.inj e⟩
/-- a turn of [e(k) for k in range(len(l)) if l[k] == ("box", b)] -/
theorem idx_turn {W : Wd} {Γ : Gm} {l : List Pl} {i b : Nat} {te tl : TE} {acc : List PyData} {e : Nat → PyData} (hi : i < l.length) (ia : acc = (idx l (.box b) i).map e) (hl : ∀ κ : A → Prop, κ (.d l[i].e) → ED K W tl Γ κ) (he : ∀ κ : A → Prop, κ (.d (e i)) → ED K W te Γ κ) {tb : TE} (hb : ∀ κ : A → Prop, κ (.d (Pl.box b).e) → ED K W tb Γ κ) :
    TD K W (tTest (tOp (rEqD K) tl tb)) Γ fun c => if c = true then ED K W te Γ fun a => ∃ y, a = .d y ∧ acc ++ [y] = (idx l (.box b) (i + 1)).map e else acc = (idx l (.box b) (i + 1)).map e := by
  refine td_test (ed_op (hl _ (hb _ ?_)))
  refine rd_eq (shp_pl _).ok (shp_pl _).ok ⟨_, rfl, ?_⟩
  rw [eqv_pl]
  refine if_dec (fun hc => ?_) fun hc => ?_
  · refine he _ ⟨_, rfl, ?_⟩
    rw [idx_more, if_pos ((get_iff hi).mp hc), ia, List.map_append]
    rfl
  · rw [idx_more, if_neg fun z => hc ((get_iff hi).mpr z)]
    exact ia
abbrev s__law_lid : Stmt := topS 68
abbrev N__law_lid : List Str := ["_law_state", "_law_box", "_law_found", "_law_k"]
theorem sc__law_lid : FnScope N__law_lid ["_law_state", "_law_box"] (defScope s__law_lid) := ⟨rfl, rfl, rfl, by decide +kernel, rfl, by decide +kernel, by decide +kernel⟩
def lidA (st : Stt) (b : Nat) : A := match lidOf st b with
  | some k => .d (.int (k : Int))
  | none => .d .none
def preL : Wd → List A → (A → Prop) → Prop := fun _ as κ => ∃ (st : Stt) (b : Nat), as = [.d st.e, .d (.int (b : Int))] ∧ st.seals.length ≤ 3 ∧ κ (lidA st b)
theorem nats_shp (l : List Nat) : SeqAt.shaped (.list (l.map fun n : Nat => PyData.int (n : Int))) = true := (shp_lst (n := 0) fun d hd => by
  obtain ⟨p, _, rfl⟩ := List.mem_map.mp hd
  exact shp_int _).ok
theorem ok_lid (T : Tx K mg) : Ok P w K mg base 1 ("_law_lid", none) ["_law_state", "_law_box"] (spD K preL) := by
  refine okD T.d__law_lid sc__law_lid (fun _ _ _ _ _ _ us hl => match us, hl with | [_, _], _ => rfl) (fun _ _ _ ⟨_, _, e, _⟩ => by rw [e]; rfl) (fun _ _ _ _ h => h) fun f cdv Ar outer s H E hr W as κ ⟨st, b, e, h, k⟩ => ?_
  subst e
  refine ⟨_, (pss_cons (ps_setLc (i := 2) (own := [("_law_k", 3)]) rfl sc__law_lid.nd rfl rfl (sw_true rfl rfl rfl (by decide +kernel)) (pi_range1 rfl T.b_range (pa_cons (pe_callB (call_lenK K) (by rfl) T.b_len (by decide +kernel) (pa_cons (pe_ix (ix_tupK K) (pv 0) pe_int (fun _ _ => rfl)) pa_nil)) pa_nil)) (blkOk_by (own := [("_law_k", 3)]) (N := N__law_lid) (sc := defScope s__law_lid) (by decide +kernel)) (fun _ _ _ _ _ => (pg_name (i := 3) sc__law_lid.nd rfl (Or.inl rfl))) (fun _ _ _ _ _ => pts_one (pt_cmpR (op_eqDK K hr.units) (pe_ix (ix_tupK K) (pe_ix (ix_tupK K) (pv 0) pe_int (fun _ _ => rfl)) (pv 3) (fun _ _ => rfl)) (pe_tup (pa_cons pe_str (pa_cons (pv 1) pa_nil))) (nomark _))) (fun _ _ _ _ _ => (pv 3)))
      (pss_one (ps_ret (pe_ifExp (pt_cmpR (op_neDK K hr.units) (pv 2) (pe_lst pa_nil) (nomark _)) (pe_ix (ix_listK K) (pv 2) pe_int (fun _ _ => rfl)) pe_non)))), ?_⟩
  walk_at "eds"
  refine ed_lcR (by decide) ?_
  walk_at "eds"
  refine ⟨by rw [List.length_map]; omega, fun i acc => acc = (idx st.seals (.box b) i).map fun n : Nat => .int (n : Int), rfl, fun i acc hi ia => ?_, fun p acc hp _ ia => ?_⟩
  · rw [List.length_map] at hi
    refine idx_turn hi ia (fun κ hk => ?_) (fun κ hk => ?_) (fun κ hk => ?_)
    · walk_at "eds"
      exact rd_ixT (map_at (List.getElem?_eq_getElem hi)) hk
    · walk_at "eds"
      exact hk
    · walk_at "eds"
      exact hk
  · have ia' : acc = (idx st.seals (.box b) st.seals.length).map fun n : Nat => PyData.int (n : Int) := by
      have q := ia
      rw [List.length_map] at q
      exact q
    subst ia'
    walk_at "eds"
    refine rd_neL (y := []) (nats_shp _) (by decide +kernel) ?_
    walk_at "eds"
    unfold lidA lidOf at k
    cases hl : idx st.seals (.box b) st.seals.length with
    | nil =>
      rw [hl] at k
      show ED K W (tC V.non) _ _
      walk_at "eds"
      walk_at "out"
    | cons x xs =>
      rw [hl] at k
      show ED K W (tOp _ _ _) _ _
      walk_at "eds"
      refine rd_ixLi (by decide) (by rfl) ?_
      walk_at "out"
abbrev s__law_inside : Stmt := topS 69
abbrev N__law_inside : List Str := ["_law_state", "_law_box", "_law_found", "_law_k"]
theorem sc__law_inside : FnScope N__law_inside ["_law_state", "_law_box"] (defScope s__law_inside) := ⟨rfl, rfl, rfl, by decide +kernel, rfl, by decide +kernel, by decide +kernel⟩
def insB (st : Stt) (b n : Nat) : List It := (idx st.boxes (.box b) n).map fun k => ⟨.box, k⟩
def insT (st : Stt) (b n : Nat) : List It := (idx st.things (.box b) n).map fun k => ⟨.thing, k⟩
def insOf (st : Stt) (b : Nat) : List It := insB st b st.boxes.length ++ insT st b st.things.length
def preI : Wd → List A → (A → Prop) → Prop := fun _ as κ => ∃ (st : Stt) (b : Nat), as = [.d st.e, .d (.int (b : Int))] ∧ st.boxes.length ≤ 3 ∧ st.things.length ≤ 4 ∧ κ (.d (itsE (insOf st b)))
theorem ok_inside (T : Tx K mg) : Ok P w K mg base 1 ("_law_inside", none) ["_law_state", "_law_box"] (spD K preI) := by
  refine okD T.d__law_inside sc__law_inside (fun _ _ _ _ _ _ us hl => match us, hl with | [_, _], _ => rfl) (fun _ _ _ ⟨_, _, e, _⟩ => by rw [e]; rfl) (fun _ _ _ _ h => h) fun f cdv Ar outer s H E hr W as κ ⟨st, b, e, h1, h2, k⟩ => ?_
  subst e
  refine ⟨_, (pss_cons (ps_setLc (i := 2) (own := [("_law_k", 3)]) rfl sc__law_inside.nd rfl rfl (sw_true rfl rfl rfl (by decide +kernel)) (pi_range1 rfl T.b_range (pa_cons (pe_callB (call_lenK K) (by rfl) T.b_len (by decide +kernel) (pa_cons (pe_ix (ix_tupK K) (pv 0) pe_int (fun _ _ => rfl)) pa_nil)) pa_nil)) (blkOk_by (own := [("_law_k", 3)]) (N := N__law_inside) (sc := defScope s__law_inside) (by decide +kernel)) (fun _ _ _ _ _ => (pg_name (i := 3) sc__law_inside.nd rfl (Or.inl rfl))) (fun _ _ _ _ _ => pts_one (pt_cmpR (op_eqDK K hr.units) (pe_ix (ix_tupK K) (pe_ix (ix_tupK K) (pv 0) pe_int (fun _ _ => rfl)) (pv 3) (fun _ _ => rfl)) (pe_tup (pa_cons pe_str (pa_cons (pv 1) pa_nil))) (nomark _))) (fun _ _ _ _ _ => (pe_tup (pa_cons pe_str (pa_cons (pv 3) pa_nil)))))
      (pss_one (ps_ret (pe_callTy (call_tupleK K) (by rfl) T.b_tuple (by decide +kernel) (pa_cons (pe_op op_cat (pv 2) (pe_lc (own := [("_law_k", 3)]) rfl sc__law_inside.nd (pi_range1 rfl T.b_range (pa_cons (pe_callB (call_lenK K) (by rfl) T.b_len (by decide +kernel) (pa_cons (pe_ix (ix_tupK K) (pv 0) pe_int (fun _ _ => rfl)) pa_nil)) pa_nil)) (blkOk_by (own := [("_law_k", 3)]) (N := N__law_inside) (sc := defScope s__law_inside) (by decide +kernel)) (fun _ _ _ _ _ => (pg_name (i := 3) sc__law_inside.nd rfl (Or.inl rfl))) (fun _ _ _ _ _ => pts_one (pt_cmpR (op_eqDK K hr.units) (pe_ix (ix_tupK K) (pe_ix (ix_tupK K) (pv 0) pe_int (fun _ _ => rfl)) (pv 3) (fun _ _ => rfl)) (pe_tup (pa_cons pe_str (pa_cons (pv 1) pa_nil))) (nomark _))) (fun _ _ _ _ _ => (pe_tup (pa_cons pe_str (pa_cons (pv 3) pa_nil)))))) pa_nil))))), ?_⟩
  walk_at "eds"
  refine ed_lcR (by decide) ?_
  walk_at "eds"
  refine ⟨by rw [List.length_map]; omega, fun i acc => acc = (idx st.boxes (.box b) i).map fun n : Nat => It.e ⟨.box, n⟩, rfl, fun i acc hi ia => ?_, fun p acc hp hl ia => ?_⟩
  · rw [List.length_map] at hi
    refine idx_turn hi ia (fun κ hk => ?_) (fun κ hk => ?_) (fun κ hk => ?_)
    · walk_at "eds"
      exact rd_ixT (map_at (List.getElem?_eq_getElem hi)) hk
    · walk_at "eds"
      exact hk
    · walk_at "eds"
      exact hk
  · rw [List.length_map] at hl
    walk_at "eds"
    refine ed_lcR (by decide) ?_
    walk_at "eds"
    refine ⟨by rw [List.length_map]; omega, fun i acc => acc = (idx st.things (.box b) i).map fun n : Nat => It.e ⟨.thing, n⟩, rfl, fun i acc hi ia => ?_, fun p2 acc2 hp2 hl2 ia2 => ?_⟩
    · rw [List.length_map] at hi
      refine idx_turn hi ia (fun κ hk => ?_) (fun κ hk => ?_) (fun κ hk => ?_)
      · walk_at "eds"
        exact rd_ixT (map_at (List.getElem?_eq_getElem hi)) hk
      · walk_at "eds"
        exact hk
      · walk_at "eds"
        exact hk
    · rw [List.length_map] at hl2
      refine rd_cat (by omega) ?_
      walk_at "eds"
      have e : acc ++ acc2 = (insOf st b).map It.e := by
        have q := ia
        have q2 := ia2
        rw [List.length_map] at q q2
        unfold insOf insB insT
        rw [List.map_append, List.map_map, List.map_map]
        rw [q, q2]
        rfl
      rw [e]
      walk_at "out"
abbrev s__law_items : Stmt := topS 70
abbrev N__law_items : List Str := ["_law_house_here", "_law_found", "_law_k"]
theorem sc__law_items : FnScope N__law_items ["_law_house_here"] (defScope s__law_items) := ⟨rfl, rfl, rfl, by decide +kernel, rfl, by decide +kernel, by decide +kernel⟩
def itemsB (h : Hs) : List It := (List.range h.boxes.length).map fun k => ⟨.box, k⟩
def itemsS (h : Hs) : List It := (List.range h.seals.length).map fun k => ⟨.sl, k⟩
def itemsT (h : Hs) : List It := (List.range h.things.length).map fun k => ⟨.thing, k⟩
def itemsOf (h : Hs) : List It := itemsB h ++ itemsS h ++ itemsT h
def preIt : Wd → List A → (A → Prop) → Prop := fun _ as κ => ∃ (h : Hs), as = [.d h.e] ∧ h.boxes.length ≤ 3 ∧ h.things.length ≤ 4 ∧ h.seals.length ≤ 3 ∧ ∀ p, κ (.o p ((itemsOf h).map It.e))
theorem rng_more (f : Nat → It) (i : Nat) (acc : List PyData) (h : acc = ((List.range i).map f).map It.e) : acc ++ [(f i).e] = ((List.range (i + 1)).map f).map It.e := by
  rw [h, List.range_succ, List.map_append, List.map_append]
  rfl
theorem ok_items (T : Tx K mg) : Ok P w K mg base 1 ("_law_items", none) ["_law_house_here"] (spD K preIt) := by
  refine okD T.d__law_items sc__law_items (fun _ _ _ _ _ _ us hl => match us, hl with | [_], _ => rfl) (fun _ _ _ ⟨_, e, _⟩ => by rw [e]; rfl) (fun _ _ _ _ h => h) fun f cdv Ar outer s H E hr W as κ ⟨h, e, h1, h2, h3, k⟩ => ?_
  subst e
  refine ⟨_, (pss_cons (ps_set (i := 1) sc__law_items.nd rfl (Or.inl rfl) (pe_op op_cat (pe_lc (own := [("_law_k", 2)]) rfl sc__law_items.nd (pi_range1 rfl T.b_range (pa_cons (pe_callB (call_lenK K) (by rfl) T.b_len (by decide +kernel) (pa_cons (pe_ix (ix_tupK K) (pv 0) pe_int (fun _ _ => rfl)) pa_nil)) pa_nil)) (blkOk_by (own := [("_law_k", 2)]) (N := N__law_items) (sc := defScope s__law_items) (by decide +kernel)) (fun _ _ _ _ _ => (pg_name (i := 2) sc__law_items.nd rfl (Or.inl rfl))) (fun _ _ _ _ _ => pts_nil) (fun _ _ _ _ _ => (pe_tup (pa_cons pe_str (pa_cons (pv 2) pa_nil))))) (pe_lc (own := [("_law_k", 2)]) rfl sc__law_items.nd (pi_range1 rfl T.b_range (pa_cons (pe_callB (call_lenK K) (by rfl) T.b_len (by decide +kernel) (pa_cons (pe_ix (ix_tupK K) (pv 0) pe_int (fun _ _ => rfl)) pa_nil)) pa_nil)) (blkOk_by (own := [("_law_k", 2)]) (N := N__law_items) (sc := defScope s__law_items) (by decide +kernel)) (fun _ _ _ _ _ => (pg_name (i := 2) sc__law_items.nd rfl (Or.inl rfl))) (fun _ _ _ _ _ => pts_nil) (fun _ _ _ _ _ => (pe_tup (pa_cons pe_str (pa_cons (pv 2) pa_nil)))))))
      (pss_one (ps_ret (pe_op op_cat (pv 1) (pe_lc (own := [("_law_k", 2)]) rfl sc__law_items.nd (pi_range1 rfl T.b_range (pa_cons (pe_callB (call_lenK K) (by rfl) T.b_len (by decide +kernel) (pa_cons (pe_ix (ix_tupK K) (pv 0) pe_int (fun _ _ => rfl)) pa_nil)) pa_nil)) (blkOk_by (own := [("_law_k", 2)]) (N := N__law_items) (sc := defScope s__law_items) (by decide +kernel)) (fun _ _ _ _ _ => (pg_name (i := 2) sc__law_items.nd rfl (Or.inl rfl))) (fun _ _ _ _ _ => pts_nil) (fun _ _ _ _ _ => (pe_tup (pa_cons pe_str (pa_cons (pv 2) pa_nil))))))))), ?_⟩
  walk_at "eds"
  refine ed_lcR (by decide) ?_
  walk_at "eds"
  refine ⟨by rw [List.length_map]; omega, fun i acc => acc = ((List.range i).map fun n : Nat => (⟨.box, n⟩ : It)).map It.e, rfl, fun i acc hi ia => ?_, fun p1 acc1 hp1 hl1 ia1 => ?_⟩
  · walk_at "eds"
    exact rng_more (fun n => ⟨.box, n⟩) i acc ia
  walk_at "eds"
  refine ed_lcR (by decide) ?_
  walk_at "eds"
  refine ⟨by rw [List.length_map]; omega, fun i acc => acc = ((List.range i).map fun n : Nat => (⟨.sl, n⟩ : It)).map It.e, rfl, fun i acc hi ia => ?_, fun p2 acc2 hp2 hl2 ia2 => ?_⟩
  · walk_at "eds"
    exact rng_more (fun n => ⟨.sl, n⟩) i acc ia
  rw [List.length_map] at hl1 hl2
  refine rd_cat (by omega) ?_
  walk_at "eds"
  refine ed_lcR (by decide) ?_
  walk_at "eds"
  refine ⟨by rw [List.length_map]; omega, fun i acc => acc = ((List.range i).map fun n : Nat => (⟨.thing, n⟩ : It)).map It.e, rfl, fun i acc hi ia => ?_, fun p3 acc3 hp3 hl3 ia3 => ?_⟩
  · walk_at "eds"
    exact rng_more (fun n => ⟨.thing, n⟩) i acc ia
  rw [List.length_map] at hl3
  refine rd_cat (by rw [List.length_append]; omega) fun q hq => ?_
  have e : acc1 ++ acc2 ++ acc3 = (itemsOf h).map It.e := by
    have q1 := ia1
    have q2 := ia2
    have q3 := ia3
    rw [List.length_map] at q1 q2 q3
    unfold itemsOf itemsB itemsS itemsT
    rw [List.map_append, List.map_append, q1, q2, q3]
  rw [e]
  exact ⟨k q, fun p ds z => by cases z; exact hq.o⟩
end
end Q47
set_option maxHeartbeats 4000000
/-! ### may, true -/
namespace Q47
open PySem L2
open PySem.W (Frag)
open PyProof.Rows (envOfC)
local macro_rules | `(tactic| walk_at "shp") => `(tactic| first
  | with_reducible exact (shp_int _).ok
  | with_reducible exact (shp_pl _).ok
  | with_reducible exact (shp_bool _).ok
  | with_reducible exact (shp_it _).ok
  | with_reducible exact (shp_str (by decide +kernel)).ok
  | with_reducible exact (shp_2 (shp_str (by decide +kernel)) (shp_int _)).ok
  | with_reducible exact (shp_st _).ok
  | with_reducible exact (shp_dd _).ok
  | with_reducible exact (shp_sg _).ok
  | with_reducible exact (shp_rw _).ok
  | assumption)
local macro_rules | `(tactic| walk_at "ed") => `(tactic| first
  | ((with_reducible refine' ed_var ?hv ?_); (case hv => exact rfl))
  | with_reducible refine ed_int ?_
  | with_reducible refine ed_str ?_
  | with_reducible refine ed_bl ?_
  | with_reducible refine ed_non ?_
  | with_reducible refine edd_cons ?_
  | with_reducible refine edd_nil ?_
  | with_reducible refine eda_cons ?_
  | with_reducible refine eda_nil ?_
  | with_reducible refine ⟨_, rfl, ?_⟩
  | with_reducible refine ⟨_, _, rfl, ?_⟩
  | with_reducible refine ⟨_, _, _, rfl, ?_⟩
  | with_reducible refine ed_tupD ?_
  | with_reducible refine ed_lstD ?_
  | with_reducible refine ed_op ?_
  | with_reducible refine ed_cb ?_
  | with_reducible refine ed_call ?_
  | with_reducible refine ed_and ?_
  | with_reducible refine ed_or ?_
  | with_reducible refine ed_not ?_
  | with_reducible refine ed_if ?_
  | with_reducible refine td_test ?_
  | with_reducible refine td_B ?_
  | with_reducible refine td_and ?_
  | with_reducible refine td_or ?_
  | with_reducible refine td_not ?_
  | with_reducible refine td_yes ?_
  | with_reducible refine rd_I0 ?_
  | with_reducible refine rd_B0 ?_
  | ((with_reducible refine rd_eq ?hx ?hy ?_); (case hx => walk_at "shp"); (case hy => walk_at "shp"))
  | ((with_reducible refine rd_ne ?hx ?hy ?_); (case hx => walk_at "shp"); (case hy => walk_at "shp"))
  | ((with_reducible refine' rd_ixTi ?h0 ?hi ?_); (case h0 => decide); (case hi => exact rfl))
  | ((with_reducible refine len_ok ?hl ?_); (case hl => exact rfl))
  | ((with_reducible refine ed_dsel3 ?a12 ?a13 ?a23 ?_); (case a12 => decide +kernel); (case a13 => decide +kernel); (case a23 => decide +kernel))
  | with_reducible refine fun _ (_ : New _ _ _) => ?_
  | with_reducible refine cd_lenK (.inr ⟨_, rfl, ?_⟩)
  | with_reducible refine cd_lenK (.inl ⟨_, _, rfl, ?_⟩)
  | with_reducible refine cd_tupleK ?_
  | ((with_reducible refine if_t ?hc ?_); (case hc => first | rfl | decide +kernel))
  | ((with_reducible refine if_f ?hc ?_); (case hc => first | rfl | decide +kernel))
  | with_reducible refine sd_par ?_
  | with_reducible refine sd_par3 ?_
  | with_reducible refine sd_next ?_
  | with_reducible refine sd_ret ?_
  | with_reducible refine sd_seq ?_
  | with_reducible refine sd_asg ?_
  | with_reducible refine gd_name ?_
  | with_reducible refine sd_if ?_)
local macro_rules | `(tactic| walk_at "out") => `(tactic| exact ⟨by assumption, fun _ _ z => by cases z⟩)
local macro_rules | `(tactic| walk_at "eds") => `(tactic| repeat walk_at "ed")

section
variable {P : Program} {w : World} {K : Frag} {mg : Str → Option Value} {base : Heap}
abbrev s__law_may : Stmt := topS 73
abbrev N__law_may : List Str := ["_law_state", "_law_deed", "_law_word", "_law_hand", "_law_box"]
theorem sc__law_may : FnScope N__law_may ["_law_state", "_law_deed"] (defScope s__law_may) := ⟨rfl, rfl, rfl, by decide +kernel, rfl, by decide +kernel, by decide +kernel⟩
def Doable (st : Stt) : Dd → Prop
  | .brk _ b => lidOf st b ≠ none
  | _ => True
def preMay : Wd → List A → (A → Prop) → Prop := fun _ as κ => ∃ (h : Hs) (st : Stt) (d : Dd), as = [.d st.e, .d d.e] ∧ HsOk h ∧ StOk h st ∧ DdOk h d ∧ ∀ b : Bool, (b = true → Doable st d) → κ (.d (.bool b))
theorem ok_may (T : Tx K mg) : Ok P w K mg base 2 ("_law_may", none) ["_law_state", "_law_deed"] (spD K preMay) := by
  have f__law_place : Ok P w K mg base 1 ("_law_place", none) ["_law_state", "_law_item"] (spD K preP) := ok_place T
  have f__law_lid : Ok P w K mg base 1 ("_law_lid", none) ["_law_state", "_law_box"] (spD K preL) := ok_lid T
  refine okD T.d__law_may sc__law_may (fun _ _ _ _ _ _ us hl => match us, hl with | [_, _], _ => rfl) (fun _ _ _ ⟨_, _, _, e, _⟩ => by rw [e]; rfl) (fun _ _ _ _ h => h) fun f cdv Ar outer s H E hr W as κ ⟨h, st, d, e, h1, h2, h3, k⟩ => ?_
  subst e
  refine ⟨_, (pss_cons (ps_par (i := 2) (j := 3) (by rfl) sc__law_may.nd rfl rfl (by decide) rfl rfl (pa_cons (pe_ix (ix_tupK K) (pv 1) pe_int (fun _ _ => rfl)) (pa_cons (pe_tup (pa_cons pe_str (pa_cons (pe_ix (ix_tupK K) (pv 1) pe_int (fun _ _ => rfl)) pa_nil))) pa_nil)) (by rfl))
      (pss_cons (ps_if (pt_cmpR (op_eqDK K hr.units) (pv 2) pe_str (nomark _)) (pss_one (ps_ret (pe_and (pe_cmpR (op_eqDK K hr.units) (pe_cf f__law_place (hr.mono (by decide)) T.g__law_place (pa_cons (pv 0) (pa_cons (pe_ix (ix_tupK K) (pv 1) pe_int (fun _ _ => rfl)) pa_nil))) (pv 3) (nomark _)) (pe_one (pe_cmpR (op_neDK K hr.units) (pe_ix (ix_tupK K) (pv 1) pe_int (fun _ _ => rfl)) (pe_ix (ix_tupK K) (pv 1) pe_int (fun _ _ => rfl)) (nomark _)))))) pss_nil)
      (pss_cons (ps_set (i := 4) sc__law_may.nd rfl (Or.inl rfl) (pe_ifExp (pt_cmpR (op_in_seqK K) (pv 2) (pe_tup (pa_cons pe_str (pa_cons pe_str pa_nil))) (by rfl)) (pe_ix (ix_tupK K) (pv 1) pe_int (fun _ _ => rfl)) (pe_ix (ix_tupK K) (pv 1) pe_int (fun _ _ => rfl))))
      (pss_cons (ps_if (PW.pt (pw_or (pt_cmpR (op_neDK K hr.units) (pe_cf f__law_place (hr.mono (by decide)) T.g__law_place (pa_cons (pv 0) (pa_cons (pe_tup (pa_cons pe_str (pa_cons (pv 4) pa_nil))) pa_nil))) (pv 3) (nomark _)) (pw_or1 (pt_cmpR (op_eqDK K hr.units) (pe_cmpR op_isNn (pe_cf f__law_lid (hr.mono (by decide)) T.g__law_lid (pa_cons (pv 0) (pa_cons (pv 4) pa_nil))) pe_non (nomark _)) (pe_cmpR (op_eqDK K hr.units) (pv 2) pe_str (nomark _)) (nomark _))))) (pss_one (ps_ret pe_bl)) pss_nil)
      (pss_cons (ps_if (pt_cmpR (op_eqDK K hr.units) (pv 2) pe_str (nomark _)) (pss_one (ps_ret (pe_and (pe_cmpR (op_neDK K hr.units) (pe_ix (ix_tupK K) (pv 1) pe_int (fun _ _ => rfl)) (pe_tup (pa_cons pe_str (pa_cons (pv 4) pa_nil))) (nomark _)) (pe_one (pe_cmpR (op_eqDK K hr.units) (pe_cf f__law_place (hr.mono (by decide)) T.g__law_place (pa_cons (pv 0) (pa_cons (pe_ix (ix_tupK K) (pv 1) pe_int (fun _ _ => rfl)) pa_nil))) (pv 3) (nomark _)))))) pss_nil)
      (pss_cons (ps_if (pt_cmpR (op_eqDK K hr.units) (pv 2) pe_str (nomark _)) (pss_one (ps_ret (pe_cmpR (op_eqDK K hr.units) (pe_cf f__law_place (hr.mono (by decide)) T.g__law_place (pa_cons (pv 0) (pa_cons (pe_ix (ix_tupK K) (pv 1) pe_int (fun _ _ => rfl)) pa_nil))) (pe_tup (pa_cons pe_str (pa_cons (pv 4) pa_nil))) (nomark _)))) pss_nil)
      (pss_one (ps_ret (pe_or (pe_cmpR (op_eqDK K hr.units) (pv 2) pe_str (nomark _)) (pe_one (pe_cmpR (op_eqDK K hr.units) (pe_cf f__law_place (hr.mono (by decide)) T.g__law_place (pa_cons (pv 0) (pa_cons (pe_tup (pa_cons pe_str (pa_cons (pe_ix (ix_tupK K) (pv 1) pe_int (fun _ _ => rfl)) pa_nil))) pa_nil))) (pv 3) (nomark _)))))))))))), ?_⟩
  have kb : ∀ b : Bool, Doable st d → Out W κ (.d (.bool b)) := fun b hb => ⟨k b fun _ => hb, fun _ _ z => by cases z⟩
  have kf : Out W κ (.d (.bool false)) := ⟨k false (fun z => by cases z), fun _ _ z => by cases z⟩
  have lid : ∀ {b : Nat} {Γ : Gm} {κ' : A → Prop}, κ' (.d (.bool (decide (lidOf st b = none)))) → RD K W Γ rIsNn (lidA st b) (.d .none) κ' := fun {b Γ κ'} hk => by
    unfold lidA
    cases e : lidOf st b with
    | none =>
      rw [e] at hk
      exact rd_isN hk
    | some n =>
      rw [e] at hk
      exact rd_isNi hk
  have hs3 : st.seals.length ≤ 3 := by rw [h2.ls]; exact h1.s3
  cases d with
  | give x i o =>
    dsimp only [Dd.e]
    walk_at "eds"
    obtain ⟨p, hp, _⟩ := st_at h2 h3.2.1
    refine ⟨st, i, p, rfl, hp, fun _ => ?_⟩
    walk_at "eds"
    refine if_b (fun _ => ?_) fun _ => kf
    walk_at "eds"
    exact kb _ trivial
  | put x i b =>
    dsimp only [Dd.e]
    walk_at "eds"
    refine rd_in (xs := ["seal", "break"]) ?_
    walk_at "eds"
    obtain ⟨p, hp, _⟩ := st_at (i := ⟨.box, b⟩) h2 h3.2.2.2.1
    refine ⟨st, ⟨.box, b⟩, p, rfl, hp, fun _ => ?_⟩
    walk_at "eds"
    refine if_b (fun _ => ?_) fun _ => ?_
    · walk_at "eds"
      exact kf
    · walk_at "eds"
      refine ⟨st, b, rfl, hs3, fun _ => ?_⟩
      walk_at "eds"
      refine lid ?_
      walk_at "eds"
      refine if_b (fun _ => ?_) fun _ => ?_
      · walk_at "eds"
        exact kf
      · walk_at "eds"
        refine if_b (fun _ => ?_) fun _ => kf
        walk_at "eds"
        obtain ⟨p, hp, _⟩ := st_at h2 h3.2.1
        refine ⟨st, i, p, rfl, hp, fun _ => ?_⟩
        walk_at "eds"
        exact kb _ trivial
  | take x i b =>
    dsimp only [Dd.e]
    walk_at "eds"
    refine rd_in (xs := ["seal", "break"]) ?_
    walk_at "eds"
    obtain ⟨p, hp, _⟩ := st_at (i := ⟨.box, b⟩) h2 h3.2.2.2.1
    refine ⟨st, ⟨.box, b⟩, p, rfl, hp, fun _ => ?_⟩
    walk_at "eds"
    refine if_b (fun _ => ?_) fun _ => ?_
    · walk_at "eds"
      exact kf
    · walk_at "eds"
      refine ⟨st, b, rfl, hs3, fun _ => ?_⟩
      walk_at "eds"
      refine lid ?_
      walk_at "eds"
      refine if_b (fun _ => ?_) fun _ => ?_
      · walk_at "eds"
        exact kf
      · walk_at "eds"
        obtain ⟨p, hp, _⟩ := st_at h2 h3.2.1
        refine ⟨st, i, p, rfl, hp, fun _ => ?_⟩
        walk_at "eds"
        exact kb _ trivial
  | sl x b s =>
    dsimp only [Dd.e]
    walk_at "eds"
    refine rd_in (xs := ["seal", "break"]) ?_
    walk_at "eds"
    obtain ⟨p, hp, _⟩ := st_at (i := ⟨.box, b⟩) h2 h3.2.1
    refine ⟨st, ⟨.box, b⟩, p, rfl, hp, fun _ => ?_⟩
    walk_at "eds"
    refine if_b (fun _ => ?_) fun _ => ?_
    · walk_at "eds"
      exact kf
    · walk_at "eds"
      refine ⟨st, b, rfl, hs3, fun _ => ?_⟩
      walk_at "eds"
      refine lid ?_
      walk_at "eds"
      refine if_b (fun _ => ?_) fun _ => ?_
      · walk_at "eds"
        exact kf
      · walk_at "eds"
        obtain ⟨p, hp, _⟩ := st_at (i := ⟨.sl, s⟩) h2 h3.2.2
        refine ⟨st, ⟨.sl, s⟩, p, rfl, hp, fun _ => ?_⟩
        walk_at "eds"
        exact kb _ trivial
  | brk x b =>
    dsimp only [Dd.e]
    walk_at "eds"
    refine rd_in (xs := ["seal", "break"]) ?_
    walk_at "eds"
    obtain ⟨p, hp, _⟩ := st_at (i := ⟨.box, b⟩) h2 h3.2
    refine ⟨st, ⟨.box, b⟩, p, rfl, hp, fun _ => ?_⟩
    walk_at "eds"
    refine if_b (fun _ => ?_) fun _ => ?_
    · walk_at "eds"
      exact kf
    · walk_at "eds"
      refine ⟨st, b, rfl, hs3, fun _ => ?_⟩
      walk_at "eds"
      refine lid ?_
      walk_at "eds"
      by_cases hl : lidOf st b = none
      · refine if_t (by rw [decide_eq_true hl]; decide +kernel) ?_
        walk_at "eds"
        exact kf
      · refine if_f (by rw [decide_eq_false hl]; decide +kernel) ?_
        walk_at "eds"
        exact kb _ hl
abbrev s__law_true : Stmt := topS 76
abbrev N__law_true : List Str := ["_law_state", "_law_sight_here"]
theorem sc__law_true : FnScope N__law_true ["_law_state", "_law_sight_here"] (defScope s__law_true) := ⟨rfl, rfl, rfl, by decide +kernel, rfl, by decide +kernel, by decide +kernel⟩
def preTrue : Wd → List A → (A → Prop) → Prop := fun _ as κ => ∃ (h : Hs) (st : Stt) (g : Sg), as = [.d st.e, .d g.e] ∧ HsOk h ∧ StOk h st ∧ SgOk h g ∧ ∀ b : Bool, κ (.d (.bool b))
theorem ok_true (T : Tx K mg) : Ok P w K mg base 2 ("_law_true", none) ["_law_state", "_law_sight_here"] (spD K preTrue) := by
  have f__law_place : Ok P w K mg base 1 ("_law_place", none) ["_law_state", "_law_item"] (spD K preP) := ok_place T
  have f__law_lid : Ok P w K mg base 1 ("_law_lid", none) ["_law_state", "_law_box"] (spD K preL) := ok_lid T
  have f__law_inside : Ok P w K mg base 1 ("_law_inside", none) ["_law_state", "_law_box"] (spD K preI) := ok_inside T
  refine okD T.d__law_true sc__law_true (fun _ _ _ _ _ _ us hl => match us, hl with | [_, _], _ => rfl) (fun _ _ _ ⟨_, _, _, e, _⟩ => by rw [e]; rfl) (fun _ _ _ _ h => h) fun f cdv Ar outer s H E hr W as κ ⟨h, st, g, e, h1, h2, h3, k⟩ => ?_
  subst e
  refine ⟨_, (pss_cons (ps_if (pt_cmpR (op_eqDK K hr.units) (pe_ix (ix_tupK K) (pv 1) pe_int (fun _ _ => rfl)) pe_str (nomark _)) pss_never pss_nil)
      (pss_cons (ps_if (pt_cmpR (op_eqDK K hr.units) (pe_ix (ix_tupK K) (pv 1) pe_int (fun _ _ => rfl)) pe_str (nomark _)) (pss_one (ps_ret (pe_cmpR (op_eqDK K hr.units) (pe_cf f__law_place (hr.mono (by decide)) T.g__law_place (pa_cons (pv 0) (pa_cons (pe_ix (ix_tupK K) (pv 1) pe_int (fun _ _ => rfl)) pa_nil))) (pe_ix (ix_tupK K) (pv 1) pe_int (fun _ _ => rfl)) (nomark _)))) pss_nil)
      (pss_cons (ps_if (pt_cmpR (op_eqDK K hr.units) (pe_ix (ix_tupK K) (pv 1) pe_int (fun _ _ => rfl)) pe_str (nomark _)) (pss_one (ps_ret (pe_cmpR op_isNn (pe_cf f__law_lid (hr.mono (by decide)) T.g__law_lid (pa_cons (pv 0) (pa_cons (pe_ix (ix_tupK K) (pv 1) pe_int (fun _ _ => rfl)) pa_nil))) pe_non (nomark _)))) pss_nil)
      (pss_cons (ps_if (pt_cmpR (op_eqDK K hr.units) (pe_ix (ix_tupK K) (pv 1) pe_int (fun _ _ => rfl)) pe_str (nomark _)) (pss_one (ps_ret (pe_cmpR (op_eqDK K hr.units) (pe_cf f__law_inside (hr.mono (by decide)) T.g__law_inside (pa_cons (pv 0) (pa_cons (pe_ix (ix_tupK K) (pv 1) pe_int (fun _ _ => rfl)) pa_nil))) (pe_ix (ix_tupK K) (pv 1) pe_int (fun _ _ => rfl)) (nomark _)))) pss_nil)
      (pss_one (ps_ret (pe_cmpR (op_eqDK K hr.units) (pe_ix (ix_tupK K) (pe_ix (ix_tupK K) (pv 0) pe_int (fun _ _ => rfl)) (pe_ix (ix_tupK K) (pv 1) pe_int (fun _ _ => rfl)) (fun _ _ => rfl)) (pe_tup (pa_cons pe_str (pa_cons pe_int pa_nil))) (nomark _)))))))), ?_⟩
  have kb : ∀ b : Bool, Out W κ (.d (.bool b)) := fun b => ⟨k b, fun _ _ z => by cases z⟩
  have lid : ∀ {b : Nat} {Γ : Gm} {κ' : A → Prop}, κ' (.d (.bool (decide (lidOf st b = none)))) → RD K W Γ rIsNn (lidA st b) (.d .none) κ' := fun {b Γ κ'} hk => by
    unfold lidA
    cases e : lidOf st b with
    | none =>
      rw [e] at hk
      exact rd_isN hk
    | some n =>
      rw [e] at hk
      exact rd_isNi hk
  have hs3 : st.seals.length ≤ 3 := by rw [h2.ls]; exact h1.s3
  cases g with
  | at_ i p =>
    dsimp only [Sg.e]
    walk_at "eds"
    obtain ⟨q, hq, _⟩ := st_at h2 h3.1
    refine ⟨st, i, q, rfl, hq, fun _ => ?_⟩
    walk_at "eds"
    exact kb _
  | bare b =>
    dsimp only [Sg.e]
    walk_at "eds"
    refine ⟨st, b, rfl, hs3, fun _ => ?_⟩
    walk_at "eds"
    refine lid ?_
    exact kb _
  | inn b is =>
    dsimp only [Sg.e]
    walk_at "eds"
    refine ⟨st, b, rfl, by rw [h2.lb]; exact Nat.le_succ_of_le h1.b2, by rw [h2.lt]; exact h1.t4, fun _ => ?_⟩
    walk_at "eds"
    refine rd_eq (shp_its _).ok (shp_its _).ok ?_
    exact kb _
  | gone s =>
    dsimp only [Sg.e]
    walk_at "eds"
    obtain ⟨q, hq, _⟩ := st_at (i := ⟨.sl, s⟩) h2 h3
    refine rd_ixT (map_at hq) ?_
    walk_at "eds"
    exact kb _
end
end Q47
set_option maxHeartbeats 4000000
/-! ### the source of draws -/
namespace Q47
open PySem L2
open PySem.W (Frag)
open PyProof.Rows (envOfC)
section
variable {P : Program} {w : World} {K : Frag} {mg : Str → Option Value} {base : Heap}
structure Src (H : Hp) (hA hL : Addr) : Prop where
  ex : ∃ (st ix : Int) (ns : List Int), H hA = some (.lst [.int st, .ref hL, .int ix]) ∧ H hL = some (.lst (ns.map V.int)) ∧ 0 ≤ ix ∧ ns.length ≤ 1000
  ne : hA ≠ hL
structure SrcW (W : Wd) (hA hL : Addr) : Prop where
  mA : W.M hA
  mL : W.M hL
  src : ∀ H, W.S H → Src H hA hL
  put : ∀ H H', W.S H → (∀ a o, a ≠ hA → a ≠ hL → H a = some o → H' a = some o) → Src H' hA hL → W.S H'
theorem SrcW.at {W : Wd} {hA hL : Addr} (s : SrcW W hA hL) (H : Hp) : SrcW (W.at H) hA hL where
  mA := s.mA
  mL := s.mL
  src := fun H' q => s.src H' q.1
  put := fun H1 H2 q k r => ⟨s.put H1 H2 q.1 k r, fun a o m e => k a o (fun z => m (z ▸ s.mA)) (fun z => m (z ▸ s.mL)) (q.2.1 a o m e), q.2.2⟩
abbrev s__law_next : Stmt := topS 64
abbrev N__law_next : List Str := ["_law_h", "_law_limit", "_law_cell"]
theorem sc__law_next : FnScope N__law_next ["_law_h", "_law_limit"] (defScope s__law_next) := ⟨rfl, rfl, rfl, by decide +kernel, rfl, by decide +kernel, by decide +kernel⟩
def preNext : Wd → List A → (A → Prop) → Prop := fun W as κ => ∃ (hA hL : Addr) (lim : Nat), as = [.v (.ref hA), .d (.int (lim : Int))] ∧ SrcW W hA hL ∧ 0 < lim ∧ lim < 1000000 ∧ ∀ r : Nat, r < lim → κ (.d (.int (r : Int)))
theorem ok_next (T : Tx K mg) : Ok P w K mg base 1 ("_law_next", none) ["_law_h", "_law_limit"] (spD K preNext) := by
  refine okH T.d__law_next sc__law_next (fun _ _ _ _ _ _ us hl => match us, hl with | [_, _], _ => rfl) (fun vs H Q E ⟨W, as, κ, _, hv, ⟨_, _, _, e, _⟩, _⟩ => by rw [hv.length, e]; rfl) fun f cdv Ar outer s H E hr vs Q ⟨W, as, κ, hs, hv, ⟨hA, hL, lim, e, sw, l0, l1, k⟩, q⟩ => ?_
  subst e
  cases hv with
  | cons hv1 hv =>
    cases hv with
    | cons hv2 hv =>
      cases hv
      cases hv1
      cases hv2
      refine ⟨_, (pss_cons (ps_set (i := 2) sc__law_next.nd rfl (Or.inl rfl) (pe_ix (ix_listK K) (pe_op op_cat (pe_ix (ix_listK K) (pv 0) pe_int (fun _ _ => rfl)) (pe_lst (pa_cons pe_int pa_nil))) (pe_op op_modN (pe_callTy call_int1 (by rfl) T.b_int (by decide +kernel) (pa_cons (pe_ix (ix_listK K) (pv 0) pe_int (fun _ _ => rfl)) pa_nil)) (pe_callB (call_max2 rfl) (by rfl) T.b_max (by decide +kernel) (pa_cons pe_int (pa_cons (pe_callB (call_lenK K) (by rfl) T.b_len (by decide +kernel) (pa_cons (pe_ix (ix_listK K) (pv 0) pe_int (fun _ _ => rfl)) pa_nil)) pa_nil)))) (fun _ _ => rfl)))
      (pss_cons (ps_if (pt_cmpR op_ge (pv 2) (pe_op op_pow pe_int pe_int) (nomark _)) (pss_cons (ps_asg (pe_op op_fdivN (pv 2) (pv 1)) (pg_sub (pe_ix (ix_listK K) (pv 0) pe_int (fun _ _ => rfl)) (pe_op op_modN (pe_callTy call_int1 (by rfl) T.b_int (by decide +kernel) (pa_cons (pe_ix (ix_listK K) (pv 0) pe_int (fun _ _ => rfl)) pa_nil)) (pe_callB (call_lenK K) (by rfl) T.b_len (by decide +kernel) (pa_cons (pe_ix (ix_listK K) (pv 0) pe_int (fun _ _ => rfl)) pa_nil))) set_list))
      (pss_one (ps_ret (pe_op op_modN (pe_callTy call_int1 (by rfl) T.b_int (by decide +kernel) (pa_cons (pv 2) pa_nil)) (pv 1))))) pss_nil)
      (pss_cons (ps_asg (pe_op op_modN (pe_callTy call_int1 (by rfl) T.b_int (by decide +kernel) (pa_cons (pe_op op_add (pe_op op_add (pe_op op_mul (pe_ix (ix_listK K) (pv 0) pe_int (fun _ _ => rfl)) pe_int) (pe_op op_mul (pv 2) pe_int)) pe_int) pa_nil)) pe_int) (pg_sub (pv 0) pe_int set_list))
      (pss_cons (ps_asg (pe_op op_add (pe_ix (ix_listK K) (pv 0) pe_int (fun _ _ => rfl)) pe_int) (pg_sub (pv 0) pe_int set_list))
      (pss_one (ps_ret (pe_op op_modN (pe_callTy call_int1 (by rfl) T.b_int (by decide +kernel) (pa_cons (pe_op op_fdivN (pe_ix (ix_listK K) (pv 0) pe_int (fun _ _ => rfl)) pe_int) pa_nil)) (pv 1)))))))), ?_⟩
      obtain ⟨⟨st, ix, ns, h1, h2, h3, h4⟩, hne⟩ := sw.src H hs
      have hlen : (ns.map V.int).length = ns.length := List.length_map _
      -- h[1] + [0]
      refine ⟨_, rfl, hA, _, 1, _, rfl, rfl, SqL.of h1, rfl, ?_⟩
      refine ⟨by show 1 ≤ sizeLine; decide, fun p1 n1 => ?_⟩
      have e1 := same_new (o := HO.lst [V.int 0]) n1
      refine ⟨hL, p1, _, _, rfl, rfl, e1 _ _ h2, upd_same, Nat.le_trans (by rw [hlen]; show ns.length + 1 ≤ 1001; omega) (by decide : 1001 ≤ sizeLine), fun p2 n2 => ?_⟩
      have e2 := e1.trans (same_new (o := HO.lst (ns.map V.int ++ [V.int 0])) n2)
      generalize hH2 : upd (upd H p1 (HO.lst [V.int 0])) p2 (HO.lst (ns.map V.int ++ [V.int 0])) = H2
      rw [hH2] at e2
      have hp2 : H2 p2 = some (.lst (ns.map V.int ++ [V.int 0])) := by rw [← hH2]; exact upd_same
      -- int(h[2]) % max(1, len(h[1]))
      refine ⟨_, rfl, hA, _, 2, _, rfl, rfl, SqL.of (e2 _ _ h1), rfl, .inl ⟨ix, rfl, ?_⟩⟩
      refine ⟨_, rfl, hA, _, 1, _, rfl, rfl, SqL.of (e2 _ _ h1), rfl, hL, _, rfl, .inl (SqL.of (e2 _ _ h2)), ?_⟩
      refine ⟨1, _, rfl, ?_⟩
      rw [hlen]
      have hm : (if ((ns.length : Nat) : Int) > 1 then ((ns.length : Nat) : Int) else 1) = (((max 1 ns.length : Nat) : Nat) : Int) := by
        by_cases c : ((ns.length : Nat) : Int) > 1
        · rw [if_pos c]
          omega
        · rw [if_neg c]
          omega
      rw [hm]
      have hm1 : 1 ≤ max 1 ns.length := Nat.le_max_left _ _
      refine ⟨_, _, rfl, rfl, (by omega), ?_⟩
      have hf : ix.fmod ((max 1 ns.length : Nat) : Int) = (((ix.toNat % max 1 ns.length : Nat) : Nat) : Int) := by
        rw [Int.fmod_eq_emod_of_nonneg _ (by omega)]
        obtain ⟨n, rfl⟩ := Int.eq_ofNat_of_zero_le h3
        rw [Int.toNat_natCast]
        exact (Int.natCast_emod n _).symm
      dsimp only
      rw [hf]
      generalize hj : ix.toNat % max 1 ns.length = j
      have hj1 : j < max 1 ns.length := by rw [← hj]; exact Nat.mod_lt _ (by omega)
      -- the cell
      obtain ⟨cell, hcell, hin⟩ : ∃ cell : Int, (ns.map V.int ++ [V.int 0])[j]? = some (V.int cell) ∧ (10 ^ 18 ≤ cell → j < ns.length) := by
        by_cases c : j < ns.length
        · refine ⟨ns[j], ?_, fun _ => c⟩
          rw [List.getElem?_append_left (by rw [hlen]; exact c), List.getElem?_map, List.getElem?_eq_getElem c]
          rfl
        · refine ⟨0, ?_, fun z => absurd z (by decide)⟩
          have e0 : ns.length = 0 := by omega
          have e1 : j = 0 := by omega
          rw [List.getElem?_append_right (by rw [hlen]; omega), hlen, e0, e1]
          rfl
      refine ⟨p2, _, _, _, rfl, rfl, SqL.of hp2, atI_nat hcell, ?_⟩
      have ro2 : Ro W H H2 := Ro.of_same e2
      -- cell >= 10 ** 18
      refine ⟨_, rfl, _, _, rfl, rfl, ⟨by decide, by decide, by decide⟩, _, _, rfl, rfl, _, rfl, ?_⟩
      have lim0 : ((lim : Nat) : Int) ≠ 0 := by omega
      have out : ∀ (x : Int) (H' : Hp), Ro W H H' → W.S H' → Q (.int (x.fmod (lim : Int))) H' := fun x H' r s' => by
        have e : x.fmod ((lim : Nat) : Int) = (((x % ((lim : Nat) : Int)).toNat : Nat) : Int) := by
          rw [Int.fmod_eq_emod_of_nonneg _ (by omega), Int.toNat_of_nonneg (Int.emod_nonneg _ lim0)]
        have hlt : (x % ((lim : Nat) : Int)).toNat < lim := by
          have a := Int.emod_nonneg x lim0
          have b := Int.emod_lt_of_pos x (show (0 : Int) < ((lim : Nat) : Int) by omega)
          omega
        refine q _ H' (.d (.int (x.fmod (lim : Int)))) r s' (Rt.int _) (fun _ _ z => by cases z) ?_
        rw [e]
        exact k _ hlt
      refine if_b (fun hc => ?_) fun hc => ?_
      · have hc' : 10 ^ 18 ≤ cell := by
          have := of_decide_eq_true hc
          exact this
        have hj2 := hin hc'
        -- h[1][..] = cell // limit
        refine ⟨_, rfl, _, rfl, _, _, rfl, rfl, ⟨lim0, by omega⟩, ?_⟩
        refine ⟨_, rfl, hA, _, 1, _, rfl, rfl, SqL.of (e2 _ _ h1), rfl, ?_⟩
        refine ⟨_, rfl, hA, _, 2, _, rfl, rfl, SqL.of (e2 _ _ h1), rfl, .inl ⟨ix, rfl, ?_⟩⟩
        refine ⟨_, rfl, hA, _, 1, _, rfl, rfl, SqL.of (e2 _ _ h1), rfl, hL, _, rfl, .inl (SqL.of (e2 _ _ h2)), ?_⟩
        rw [hlen]
        have em : max 1 ns.length = ns.length := by omega
        refine ⟨_, _, rfl, rfl, (by omega), ?_⟩
        rw [em] at hf hj
        dsimp only
        rw [hf, hj]
        refine ⟨hL, _, _, j, rfl, rfl, e2 _ _ h2, ?_, ?_⟩
        · unfold ixN
          rw [if_pos (by omega), if_pos (by rw [hlen]; omega), Int.toNat_natCast]
        · generalize hH3 : upd H2 hL (HO.lst ((ns.map V.int).set j (V.int (cell.fdiv (lim : Int))))) = H3
          have r3 : ∀ a o, a ≠ hL → H2 a = some o → H3 a = some o := fun a o n z => by rw [← hH3, upd_ne n]; exact z
          have ro3 : Ro W H H3 := fun a o m z => r3 a o (fun y => m (y ▸ sw.mL)) (ro2 a o m z)
          have src3 : Src H3 hA hL := ⟨⟨st, ix, ns.set j (cell.fdiv (lim : Int)), r3 _ _ hne (e2 _ _ h1), by rw [← hH3, upd_same, List.map_set], h3, by rw [List.length_set]; exact h4⟩, hne⟩
          have s3 : W.S H3 := sw.put H H3 hs (fun a o n1 n2 z => r3 a o n2 (e2 a o z)) src3
          refine ⟨_, rfl, .inl ⟨_, rfl, _, rfl, _, _, rfl, rfl, lim0, ?_⟩⟩
          exact out _ H3 ro3 s3
      · -- h[0] = ..
        refine ⟨_, rfl, hA, _, 0, _, rfl, rfl, SqL.of (e2 _ _ h1), rfl, _, _, rfl, rfl, .inr ⟨by decide, by decide⟩, ?_⟩
        refine ⟨_, rfl, _, _, rfl, rfl, .inr ⟨by decide, by decide⟩, _, _, rfl, rfl, _, _, rfl, rfl, .inl ⟨_, rfl, _, _, rfl, rfl, (show (2147483647 : Int) ≠ 0 by decide), ?_⟩⟩
        dsimp only
        generalize ((st * 48271 + cell * 69621 + 11).fmod 2147483647) = st2
        refine ⟨_, rfl, hA, _, 0, 0, rfl, rfl, e2 _ _ h1, rfl, ?_⟩
        generalize hH3 : upd H2 hA (HO.lst (([V.int st, V.ref hL, V.int ix] : List V).set 0 (V.int st2))) = H3
        have r3 : ∀ a o, a ≠ hA → H2 a = some o → H3 a = some o := fun a o n z => by rw [← hH3, upd_ne n]; exact z
        have h31 : H3 hA = some (.lst [V.int st2, V.ref hL, V.int ix]) := by rw [← hH3, upd_same]; rfl
        -- h[2] = h[2] + 1
        refine ⟨_, rfl, hA, _, 2, _, rfl, rfl, SqL.of h31, rfl, _, _, rfl, rfl, _, rfl, hA, _, 2, 2, rfl, rfl, h31, rfl, ?_⟩
        generalize hH4 : upd H3 hA (HO.lst (([V.int st2, V.ref hL, V.int ix] : List V).set 2 (V.int (ix + 1)))) = H4
        have r4 : ∀ a o, a ≠ hA → H2 a = some o → H4 a = some o := fun a o n z => by rw [← hH4, upd_ne n]; exact r3 a o n z
        have h41 : H4 hA = some (.lst [V.int st2, V.ref hL, V.int (ix + 1)]) := by rw [← hH4, upd_same]; rfl
        have ro4 : Ro W H H4 := fun a o m z => r4 a o (fun y => m (y ▸ sw.mA)) (ro2 a o m z)
        have src4 : Src H4 hA hL := ⟨⟨st2, ix + 1, ns, h41, r4 _ _ hne.symm (e2 _ _ h2), by omega, h4⟩, hne⟩
        have s4 : W.S H4 := sw.put H H4 hs (fun a o n1 n2 z => r4 a o n1 (e2 a o z)) src4
        refine ⟨_, rfl, hA, _, 0, _, rfl, rfl, SqL.of h41, rfl, _, _, rfl, rfl, ⟨by decide, by decide⟩, .inl ⟨_, rfl, _, rfl, _, _, rfl, rfl, lim0, ?_⟩⟩
        exact out _ H4 ro4 s4
end
end Q47
set_option maxHeartbeats 4000000
/-! ### moved, done -/
namespace Q47
open PySem L2
open PySem.W (Frag)
open PyProof.Rows (envOfC)
local macro_rules | `(tactic| walk_at "shp") => `(tactic| first
  | with_reducible exact (shp_int _).ok
  | with_reducible exact (shp_pl _).ok
  | with_reducible exact (shp_bool _).ok
  | with_reducible exact (shp_it _).ok
  | with_reducible exact (shp_str (by decide +kernel)).ok
  | with_reducible exact (shp_2 (shp_str (by decide +kernel)) (shp_int _)).ok
  | with_reducible exact (shp_st _).ok
  | with_reducible exact (shp_dd _).ok
  | with_reducible exact (shp_sg _).ok
  | with_reducible exact (shp_rw _).ok
  | assumption)
local macro_rules | `(tactic| walk_at "ed") => `(tactic| first
  | ((with_reducible refine' ed_var ?hv ?_); (case hv => exact rfl))
  | with_reducible refine ed_int ?_
  | with_reducible refine ed_str ?_
  | with_reducible refine ed_bl ?_
  | with_reducible refine ed_non ?_
  | with_reducible refine edd_cons ?_
  | with_reducible refine edd_nil ?_
  | with_reducible refine eda_cons ?_
  | with_reducible refine eda_nil ?_
  | with_reducible refine ⟨_, rfl, ?_⟩
  | with_reducible refine ⟨_, _, rfl, ?_⟩
  | with_reducible refine ⟨_, _, _, rfl, ?_⟩
  | with_reducible refine ed_tupD ?_
  | with_reducible refine ed_lstD ?_
  | with_reducible refine ed_op ?_
  | with_reducible refine ed_cb ?_
  | with_reducible refine ed_call ?_
  | with_reducible refine ed_and ?_
  | with_reducible refine ed_or ?_
  | with_reducible refine ed_not ?_
  | with_reducible refine ed_if ?_
  | with_reducible refine td_test ?_
  | with_reducible refine td_B ?_
  | with_reducible refine td_and ?_
  | with_reducible refine td_or ?_
  | with_reducible refine td_not ?_
  | with_reducible refine td_yes ?_
  | with_reducible refine rd_I0 ?_
  | with_reducible refine rd_B0 ?_
  | ((with_reducible refine rd_eq ?hx ?hy ?_); (case hx => walk_at "shp"); (case hy => walk_at "shp"))
  | ((with_reducible refine rd_ne ?hx ?hy ?_); (case hx => walk_at "shp"); (case hy => walk_at "shp"))
  | ((with_reducible refine' rd_ixTi ?h0 ?hi ?_); (case h0 => decide); (case hi => exact rfl))
  | ((with_reducible refine len_ok ?hl ?_); (case hl => exact rfl))
  | ((with_reducible refine ed_dsel3 ?a12 ?a13 ?a23 ?_); (case a12 => decide +kernel); (case a13 => decide +kernel); (case a23 => decide +kernel))
  | with_reducible refine fun _ (_ : New _ _ _) => ?_
  | with_reducible refine cd_lenK (.inr ⟨_, rfl, ?_⟩)
  | with_reducible refine cd_lenK (.inl ⟨_, _, rfl, ?_⟩)
  | with_reducible refine cd_tupleK ?_
  | ((with_reducible refine if_t ?hc ?_); (case hc => first | rfl | decide +kernel))
  | ((with_reducible refine if_f ?hc ?_); (case hc => first | rfl | decide +kernel))
  | with_reducible refine sd_par ?_
  | with_reducible refine sd_par3 ?_
  | with_reducible refine sd_next ?_
  | with_reducible refine sd_ret ?_
  | with_reducible refine sd_seq ?_
  | with_reducible refine sd_asg ?_
  | with_reducible refine gd_name ?_
  | with_reducible refine sd_if ?_)
local macro_rules | `(tactic| walk_at "out") => `(tactic| exact ⟨by assumption, fun _ _ z => by cases z⟩)
local macro_rules | `(tactic| walk_at "eds") => `(tactic| repeat walk_at "ed")

section
variable {P : Program} {w : World} {K : Frag} {mg : Str → Option Value} {base : Heap}
def kdN : Kd → Nat
  | .box => 0
  | .thing => 1
  | .sl => 2
def Stt.rows (s : Stt) : List (List Pl) := [s.boxes, s.things, s.seals]
def Stt.of (l : List (List Pl)) : Stt := ⟨l.getD 0 [], l.getD 1 [], l.getD 2 []⟩
def Stt.mv (s : Stt) (i : It) (p : Pl) : Stt := match i.k with
  | .box => { s with boxes := s.boxes.set i.n p }
  | .thing => { s with things := s.things.set i.n p }
  | .sl => { s with seals := s.seals.set i.n p }
/-- the lists made of the rows -/
structure Mv (H1 : Hp) (Dl : Addr) (rows : List (List V)) (i : Nat) (H' : Hp) (ls : List Addr) : Prop where
  len : ls.length = i
  dl : H' Dl = some (.lst (ls.map V.ref))
  at_ : ∀ (j : Nat) l, ls[j]? = some l → H1 l = none ∧ l ≠ Dl ∧ ∃ r, rows[j]? = some r ∧ H' l = some (.lst r)
  nd : ls.Nodup
  old : ∀ a o, H1 a = some o → H' a = some o
theorem RtA.setE {H : Hp} : ∀ {vs : List V} {l : List Pl} {n : Nat} {v : V} {p : Pl}, RtA K H vs (l.map Pl.e) → Rt K H v p.e → RtA K H (vs.set n v) ((l.set n p).map Pl.e)
  | [], [], _, _, _, _, _ => .nil
  | _ :: _, [], _, _, _, h, _ => by cases h
  | [], _ :: _, _, _, _, h, _ => by cases h
  | _ :: _, _ :: _, 0, _, _, .cons _ t, h => .cons h t
  | _ :: _, _ :: _, n + 1, _, _, .cons g t, h => .cons g (RtA.setE t h)
abbrev s__law_moved : Stmt := topS 67
abbrev N__law_moved : List Str := ["_law_state", "_law_item", "_law_place_here", "_law_found", "_law_row"]
theorem sc__law_moved : FnScope N__law_moved ["_law_state", "_law_item", "_law_place_here"] (defScope s__law_moved) := ⟨rfl, rfl, rfl, by decide +kernel, rfl, by decide +kernel, by decide +kernel⟩
def preMoved : Wd → List A → (A → Prop) → Prop := fun _ as κ => ∃ (st : Stt) (i : It) (p : Pl), as = [.d st.e, .d i.e, .d p.e] ∧ (st.at_ i).isSome = true ∧ st.boxes.length ≤ 100 ∧ st.things.length ≤ 100 ∧ st.seals.length ≤ 100 ∧ κ (.d (st.mv i p).e)
theorem ok_moved (T : Tx K mg) : Ok P w K mg base 1 ("_law_moved", none) ["_law_state", "_law_item", "_law_place_here"] (spD K preMoved) := by
  refine okH T.d__law_moved sc__law_moved (fun _ _ _ _ _ _ us hl => match us, hl with | [_, _, _], _ => rfl) (fun vs H Q E ⟨W, as, κ, _, hv, ⟨_, _, _, e, _⟩, _⟩ => by rw [hv.length, e]; rfl) fun f cdv Ar outer s H E hr vs Q ⟨W, as, κ, hs, hv, ⟨st, it, pl, e, hit, b1, b2, b3, k⟩, q⟩ => ?_
  subst e
  cases hv with
  | cons hv1 hv =>
    cases hv with
    | cons hv2 hv =>
      cases hv with
      | @cons v3 _ _ _ hv3 hv =>
        cases hv
        cases hv1 with
        | @tup a xs _ ha hxs =>
          cases hv2 with
          | @tup ai xi _ hai hxi =>
            refine ⟨_, (pss_cons (ps_setLc (i := 3) (own := [("_law_row", 4)]) rfl sc__law_moved.nd rfl rfl (sw_true rfl rfl rfl (by decide +kernel)) (pi_tupK K (pv 0)) (blkOk_by (own := [("_law_row", 4)]) (N := N__law_moved) (sc := defScope s__law_moved) (by decide +kernel)) (fun _ _ _ _ _ => (pg_name (i := 4) sc__law_moved.nd rfl (Or.inl rfl))) (fun _ _ _ _ _ => pts_nil) (fun _ _ _ _ _ => (pe_callTy (call_listK K) (by rfl) T.b_list (by decide +kernel) (pa_cons (pv 4) pa_nil))))
      (pss_cons (ps_asg (pv 2) (pg_sub (pe_ix (ix_listK K) (pv 3) (pe_dget (hu_of hr) (pe_disp (pps_cons pe_str pe_int (pps_cons pe_str pe_int (pps_cons pe_str pe_int pps_nil))) (by rfl) (by rfl) (fun z => by cases z) (by decide)) (pe_ix (ix_tupK K) (pv 1) pe_int (fun _ _ => rfl)) (fun _ _ => rfl)) (fun _ _ => rfl)) (pe_ix (ix_tupK K) (pv 1) pe_int (fun _ _ => rfl)) set_list))
      (pss_one (ps_ret (pe_callTy (call_tupleK K) (by rfl) T.b_tuple (by decide +kernel) (pa_cons (pe_lc (own := [("_law_row", 4)]) rfl sc__law_moved.nd (pi_listK K (pv 3)) (blkOk_by (own := [("_law_row", 4)]) (N := N__law_moved) (sc := defScope s__law_moved) (by decide +kernel)) (fun _ _ _ _ _ => (pg_name (i := 4) sc__law_moved.nd rfl (Or.inl rfl))) (fun _ _ _ _ _ => pts_nil) (fun _ _ _ _ _ => (pe_callTy (call_tupleK K) (by rfl) T.b_tuple (by decide +kernel) (pa_cons (pv 4) pa_nil)))) pa_nil)))))), ?_⟩
            cases hxs with
            | cons g1 hxs =>
            cases hxs with
            | cons g2 hxs =>
            cases hxs with
            | cons g3 hxs =>
            cases hxs
            cases g1 with
            | @tup a1 r1 _ s1 q1 =>
            cases g2 with
            | @tup a2 r2 _ s2 q2 =>
            cases g3 with
            | @tup a3 r3 _ s3 q3 =>
            have row_at : ∀ (i : Nat) x, ([.ref a1, .ref a2, .ref a3] : List V)[i]? = some x → ∃ al r, x = .ref al ∧ SqT K H al r ∧ ([r1, r2, r3] : List (List V))[i]? = some r ∧ i < 3 := fun i x h => by
              match i, h with
              | 0, h => exact ⟨a1, r1, (Option.some.inj h).symm, s1, rfl, by decide⟩
              | 1, h => exact ⟨a2, r2, (Option.some.inj h).symm, s2, rfl, by decide⟩
              | 2, h => exact ⟨a3, r3, (Option.some.inj h).symm, s3, rfl, by decide⟩
              | n + 3, h => simp at h
            generalize hrows : ([r1, r2, r3] : List (List V)) = rows at row_at
            -- found = [list(row) for row in state]
            refine ⟨_, rfl, a, rfl, ⟨_, ha⟩, fun Dl hD => lc_tup (xs := [.ref a1, .ref a2, .ref a3]) (fun i H' => ∃ ls, Mv H Dl rows i H' ls) ⟨[], rfl, upd_same, fun j l h => by simp at h, List.nodup_nil, fun b o z => by rw [upd_ne (ne_of_none z hD)]; exact z⟩ (fun i H' _ ⟨ls, m⟩ => (Kp.of_same m.old).sqT ha) (fun i x H' hi ⟨ls, m⟩ => ?_) fun H2 ⟨ls, m⟩ => ?_⟩
            · obtain ⟨al, r, rfl, hs', hr', hi3⟩ := row_at i x hi
              refine ⟨rfl, ?_⟩
              show (tCB (rListK K) (tCons (tVar 4) tNil)) _ _ _
              refine ⟨_, rfl, al, r, rfl, .inr ((Kp.of_same m.old).sqT hs'), fun l hl => ?_⟩
              have nl : l ≠ Dl := fun z => by rw [z, m.dl] at hl; cases hl
              have nold : H l = none := by
                cases z : H l with
                | none => rfl
                | some o =>
                  rw [m.old l o z] at hl
                  cases hl
              have hDl : upd H' l (.lst r) Dl = some (.lst (ls.map V.ref)) := by rw [upd_ne (Ne.symm nl)]; exact m.dl
              refine ⟨_, hDl, Nat.lt_of_lt_of_le (show (ls.map V.ref).length < 100 by rw [List.length_map, m.len]; omega) (by decide), ls ++ [l], ?_⟩
              have nls : l ∉ ls := fun z => by
                obtain ⟨j, hj, e⟩ := List.mem_iff_getElem.mp z
                obtain ⟨_, _, r', _, h5⟩ := m.at_ j l (by rw [List.getElem?_eq_getElem hj, e])
                rw [h5] at hl
                cases hl
              refine ⟨by rw [List.length_append, m.len]; rfl, by rw [upd_same, List.map_append]; rfl, fun j l' hj => ?_, List.nodup_append.mpr ⟨m.nd, List.nodup_cons.mpr ⟨by simp, List.nodup_nil⟩, fun x hx y hy => ?_⟩, fun b o z => ?_⟩
              · by_cases c : j < ls.length
                · rw [List.getElem?_append_left c] at hj
                  obtain ⟨h5, h6, r', h7, h8⟩ := m.at_ j l' hj
                  have n1 : l' ≠ l := fun z => nls (z ▸ List.mem_of_getElem? hj)
                  exact ⟨h5, h6, r', h7, by rw [upd_ne h6, upd_ne n1]; exact h8⟩
                · rw [List.getElem?_append_right (by omega)] at hj
                  have ej : j = i := by
                    have := (List.getElem?_eq_some_iff.mp hj).1
                    simp at this
                    have := m.len
                    omega
                  subst ej
                  have el : l' = l := by
                    rw [m.len, Nat.sub_self] at hj
                    exact (Option.some.inj hj).symm
                  subst el
                  exact ⟨nold, nl, r, hr', by rw [upd_ne nl, upd_same]⟩
              · rw [List.mem_singleton] at hy
                rw [hy]
                exact fun z => nls (z ▸ hx)
              · rw [upd_ne (ne_of_none z hD), upd_ne (ne_of_none z nold)]
                exact m.old b o z
            -- found[..][..] = place_here
            have kp2 : Kp H H2 := Kp.of_same m.old
            cases hxi with
            | cons w1 hxi =>
            cases hxi with
            | cons w2 hxi =>
            cases hxi
            cases w1
            cases w2
            have hlen3 : ls.length = 3 := m.len
            have hk3 : kdN it.k < 3 := by cases it.k <;> decide
            obtain ⟨l, hl⟩ : ∃ l, ls[kdN it.k]? = some l := ⟨_, List.getElem?_eq_getElem (by omega)⟩
            obtain ⟨nl0, nlD, r, hr', hlr⟩ := m.at_ _ l hl
            have en : En K W0 H2 (((L2.start N__law_moved [V.ref a, V.ref ai, v3]).set 3 (some (.ref Dl)))) [none, some (.d it.e), none, none, none] := by
              refine ⟨rfl, fun i b hb => ?_⟩
              match i, hb with
              | 1, hb =>
                cases hb
                exact ⟨.ref ai, rfl, Rt.keep kp2 (Rt.tup hai (.cons (.str _) (.cons (.int _) .nil)))⟩
              | 0, hb => cases hb
              | 2, hb => cases hb
              | 3, hb => cases hb
              | 4, hb => cases hb
              | n + 5, hb => simp at hb
            refine ⟨_, rfl, ?_⟩
            refine ⟨_, rfl, ?_⟩
            have sel : ED K W0 (tDGet (tDisp [(tC (.str "box"), tC (.int 0)), (tC (.str "thing"), tC (.int 1)), (tC (.str "seal"), tC (.int 2))]) (tOp (rIxT K) (tVar 1) (tC (.int 0)))) [none, some (.d it.e), none, none, none] (fun b => b = .d (.int (kdN it.k : Int))) := by
              walk_at "eds"
              cases it.k with
              | box => exact .inl ⟨rfl, rfl⟩
              | thing => exact .inr (.inl ⟨rfl, rfl⟩)
              | sl => exact .inr (.inr ⟨rfl, rfl⟩)
            refine sel _ H2 _ en trivial fun v H3 b ro3 _ hb eb => ?_
            subst eb
            cases hb
            have o3 : ∀ b o, H2 b = some o → H3 b = some o := fun b o z => ro3 b o (fun z => z) z
            refine ⟨Dl, _, _, .ref l, rfl, rfl, SqL.of (o3 _ _ m.dl), atI_nat (by rw [List.getElem?_map, hl]; rfl), ?_⟩
            refine ⟨_, rfl, ai, _, 1, .int (it.n : Int), rfl, rfl, (Kp.of_same o3).sqT (kp2.sqT hai), rfl, ?_⟩
            obtain ⟨row, hrow, hn, hmv⟩ : ∃ row : List Pl, RtA K H r (row.map Pl.e) ∧ it.n < row.length ∧ (st.mv it pl) = Stt.of (st.rows.set (kdN it.k) (row.set it.n pl)) := by
              rw [← hrows] at hr'
              unfold Stt.at_ at hit
              unfold Stt.mv
              cases hk : it.k with
              | box =>
                rw [hk] at hr' hit
                cases hr'
                exact ⟨st.boxes, q1, by simpa [Stt.row] using hit, rfl⟩
              | thing =>
                rw [hk] at hr' hit
                cases hr'
                exact ⟨st.things, q2, by simpa [Stt.row] using hit, rfl⟩
              | sl =>
                rw [hk] at hr' hit
                cases hr'
                exact ⟨st.seals, q3, by simpa [Stt.row] using hit, rfl⟩
            have hrl : r.length = row.length := by rw [hrow.length, List.length_map]
            refine ⟨l, r, _, it.n, rfl, rfl, o3 _ _ hlr, ?_, ?_⟩
            · unfold ixN
              rw [if_pos (by omega), if_pos (by omega), Int.toNat_natCast]
            generalize hH4 : upd H3 l (HO.lst (r.set it.n v3)) = H4
            have o4 : ∀ b o, b ≠ l → H3 b = some o → H4 b = some o := fun b o n z => by rw [← hH4, upd_ne n]; exact z
            have old4 : ∀ b o, H b = some o → H4 b = some o := fun b o z => o4 b o (ne_of_none z nl0) (o3 b o (m.old b o z))
            have dl4 : H4 Dl = some (.lst (ls.map V.ref)) := o4 _ _ (Ne.symm nlD) (o3 _ _ m.dl)
            have at4 : ∀ (j : Nat) l', ls[j]? = some l' → ∃ r', (rows.set (kdN it.k) (r.set it.n v3))[j]? = some r' ∧ H4 l' = some (.lst r') := fun j l' hj => by
              obtain ⟨_, _, r', h7, h8⟩ := m.at_ j l' hj
              by_cases c : j = kdN it.k
              · subst c
                rw [hl] at hj
                cases hj
                refine ⟨r.set it.n v3, ?_, by rw [← hH4, upd_same]⟩
                rw [List.getElem?_set_self]
                rw [← hrows]
                exact hk3
              · have nl' : l' ≠ l := fun z => c (nd_ix m.nd (z ▸ hj) hl)
                exact ⟨r', by rw [List.getElem?_set_ne (Ne.symm c)]; exact h7, o4 _ _ nl' (o3 _ _ h8)⟩
            generalize hrows' : rows.set (kdN it.k) (r.set it.n v3) = rows' at at4
            -- tuple([tuple(row) for row in found])
            refine ⟨_, rfl, Dl, rfl, ⟨_, SqL.of dl4⟩, fun D2 hD2 => lc_list (xs := ls.map V.ref) (fun i H' => ∃ ts : List Addr, ts.length = i ∧ H' D2 = some (.lst (ts.map V.ref)) ∧ (∀ (j : Nat) t, ts[j]? = some t → ∃ r, rows'[j]? = some r ∧ H' t = some (.tup r)) ∧ ∀ b o, H4 b = some o → H' b = some o)
              ⟨[], rfl, upd_same, fun j l h => by simp at h, fun b o z => by rw [upd_ne (ne_of_none z hD2)]; exact z⟩ (fun i H' _ ⟨ts, _, _, _, o5⟩ => SqL.of (o5 _ _ dl4)) (fun i x H' hi ⟨ts, t1, t2, t3, t4⟩ => ?_) fun H5 ⟨ts, t1, t2, t3, t4⟩ => ?_⟩
            · have hil : i < ls.length := by simpa using (List.getElem?_eq_some_iff.mp hi).1
              have ex : x = .ref ls[i] := by
                rw [List.getElem?_map, List.getElem?_eq_getElem hil] at hi
                exact (Option.some.inj hi).symm
              subst ex
              obtain ⟨r', h7, h8⟩ := at4 i _ (List.getElem?_eq_getElem hil)
              refine ⟨rfl, ?_⟩
              show (tCB (rTupK K) (tCons (tVar 4) tNil)) _ _ _
              refine ⟨_, rfl, ls[i], r', rfl, .inl ⟨SqL.of (t4 _ _ h8), fun t ht => ?_⟩⟩
              have nt : t ≠ D2 := fun z => by rw [z, t2] at ht; cases ht
              refine ⟨_, by rw [upd_ne (Ne.symm nt)]; exact t2, Nat.lt_of_lt_of_le (show (ts.map V.ref).length < 100 by rw [List.length_map]; omega) (by decide), ts ++ [t], by rw [List.length_append, t1]; rfl, by rw [upd_same, List.map_append]; rfl, fun j u hj => ?_, fun b o z => ?_⟩
              · by_cases c : j < ts.length
                · rw [List.getElem?_append_left c] at hj
                  obtain ⟨r2, h9, h10⟩ := t3 j u hj
                  exact ⟨r2, h9, by rw [upd_ne (ne_of h10 t2 (fun z => by cases z)), upd_ne (ne_of_none h10 ht)]; exact h10⟩
                · rw [List.getElem?_append_right (by omega)] at hj
                  have ej : j = i := by
                    have := (List.getElem?_eq_some_iff.mp hj).1
                    simp at this
                    omega
                  subst ej
                  have eu : u = t := by
                    rw [t1, Nat.sub_self] at hj
                    exact (Option.some.inj hj).symm
                  subst eu
                  exact ⟨r', h7, by rw [upd_ne nt, upd_same]⟩
              · rw [upd_ne (ne_of_none z hD2), upd_ne (ne_of_none (t4 b o z) ht)]
                exact t4 b o z
            rw [List.length_map, hlen3] at t1
            refine ⟨D2, _, rfl, .inl ⟨SqL.of t2, fun p hp => ?_⟩⟩
            have sm := same_new (o := HO.tup (ts.map V.ref)) hp
            have so : Same H (upd H5 p (.tup (ts.map V.ref))) := fun b o z => sm b o (t4 b o (old4 b o z))
            have kpf : Kp H (upd H5 p (.tup (ts.map V.ref))) := Kp.of_same so
            refine q _ _ (.d (st.mv it pl).e) (Ro.of_same so) (Wd.same hs so) ?_ (fun _ _ z => by cases z) k
            have rall : ∀ (j : Nat) rr, (st.rows.set (kdN it.k) (row.set it.n pl))[j]? = some rr → ∃ r', rows'[j]? = some r' ∧ RtA K H r' (rr.map Pl.e) := fun j rr hj => by
              by_cases c : j = kdN it.k
              · subst c
                rw [List.getElem?_set_self (by exact hk3)] at hj
                cases hj
                refine ⟨r.set it.n v3, by rw [← hrows', List.getElem?_set_self (by rw [← hrows]; exact hk3)], ?_⟩
                exact RtA.setE hrow hv3
              · rw [List.getElem?_set_ne (Ne.symm c)] at hj
                rw [← hrows', List.getElem?_set_ne (Ne.symm c), ← hrows]
                match j, hj with
                | 0, hj => cases hj; exact ⟨r1, rfl, q1⟩
                | 1, hj => cases hj; exact ⟨r2, rfl, q2⟩
                | 2, hj => cases hj; exact ⟨r3, rfl, q3⟩
                | n + 3, hj => simp [Stt.rows] at hj
            have tup_at : ∀ (j : Nat), j < 3 → ∃ u, (ts.map V.ref)[j]? = some u ∧ Rt K (upd H5 p (.tup (ts.map V.ref))) u (plsE ((st.rows.set (kdN it.k) (row.set it.n pl)).getD j [])) := fun j hj => by
              have hjl : j < (st.rows.set (kdN it.k) (row.set it.n pl)).length := by rw [List.length_set]; exact hj
              obtain ⟨r', h7, h8⟩ := rall j _ (List.getElem?_eq_getElem hjl)
              have hts : ts[j]? = some ts[j] := List.getElem?_eq_getElem (by omega)
              obtain ⟨r2, h9, h10⟩ := t3 j _ hts
              rw [h7] at h9
              cases h9
              refine ⟨.ref ts[j], by rw [List.getElem?_map, hts]; rfl, ?_⟩
              rw [List.getD_eq_getElem?_getD, List.getElem?_eq_getElem hjl]
              exact Rt.tup (SqT.of (sm _ _ h10)) (h8.keep kpf)
            have h3t : ∃ u0 u1 u2, ts.map V.ref = [u0, u1, u2] := by
              match ts, t1 with
              | [x0, x1, x2], _ => exact ⟨_, _, _, rfl⟩
            obtain ⟨u0, u1, u2, eu⟩ := h3t
            rw [hmv]
            refine Rt.tup (SqT.of upd_same) ?_
            obtain ⟨z0, g0, k0⟩ := tup_at 0 (by decide)
            obtain ⟨z1, g1, k1⟩ := tup_at 1 (by decide)
            obtain ⟨z2, g2, k2⟩ := tup_at 2 (by decide)
            rw [eu] at g0 g1 g2
            cases g0
            cases g1
            cases g2
            have efin : RtA K (upd H5 p (.tup (ts.map V.ref))) [u0, u1, u2] [plsE ((st.rows.set (kdN it.k) (row.set it.n pl)).getD 0 []), plsE ((st.rows.set (kdN it.k) (row.set it.n pl)).getD 1 []), plsE ((st.rows.set (kdN it.k) (row.set it.n pl)).getD 2 [])] := .cons k0 (.cons k1 (.cons k2 .nil))
            rw [← eu] at efin
            exact efin
end
end Q47
set_option maxHeartbeats 4000000
/-! ### done -/
namespace Q47
open PySem L2
open PySem.W (Frag)
open PyProof.Rows (envOfC)
local macro_rules | `(tactic| walk_at "shp") => `(tactic| first
  | with_reducible exact (shp_int _).ok
  | with_reducible exact (shp_pl _).ok
  | with_reducible exact (shp_bool _).ok
  | with_reducible exact (shp_it _).ok
  | with_reducible exact (shp_str (by decide +kernel)).ok
  | with_reducible exact (shp_2 (shp_str (by decide +kernel)) (shp_int _)).ok
  | with_reducible exact (shp_st _).ok
  | with_reducible exact (shp_dd _).ok
  | with_reducible exact (shp_sg _).ok
  | with_reducible exact (shp_rw _).ok
  | assumption)
local macro_rules | `(tactic| walk_at "ed") => `(tactic| first
  | ((with_reducible refine' ed_var ?hv ?_); (case hv => exact rfl))
  | with_reducible refine ed_int ?_
  | with_reducible refine ed_str ?_
  | with_reducible refine ed_bl ?_
  | with_reducible refine ed_non ?_
  | with_reducible refine edd_cons ?_
  | with_reducible refine edd_nil ?_
  | with_reducible refine eda_cons ?_
  | with_reducible refine eda_nil ?_
  | with_reducible refine ⟨_, rfl, ?_⟩
  | with_reducible refine ⟨_, _, rfl, ?_⟩
  | with_reducible refine ⟨_, _, _, rfl, ?_⟩
  | with_reducible refine ed_tupD ?_
  | with_reducible refine ed_lstD ?_
  | with_reducible refine ed_op ?_
  | with_reducible refine ed_cb ?_
  | with_reducible refine ed_call ?_
  | with_reducible refine ed_and ?_
  | with_reducible refine ed_or ?_
  | with_reducible refine ed_not ?_
  | with_reducible refine ed_if ?_
  | with_reducible refine td_test ?_
  | with_reducible refine td_B ?_
  | with_reducible refine td_and ?_
  | with_reducible refine td_or ?_
  | with_reducible refine td_not ?_
  | with_reducible refine td_yes ?_
  | with_reducible refine rd_I0 ?_
  | with_reducible refine rd_B0 ?_
  | ((with_reducible refine rd_eq ?hx ?hy ?_); (case hx => walk_at "shp"); (case hy => walk_at "shp"))
  | ((with_reducible refine rd_ne ?hx ?hy ?_); (case hx => walk_at "shp"); (case hy => walk_at "shp"))
  | ((with_reducible refine' rd_ixTi ?h0 ?hi ?_); (case h0 => decide); (case hi => exact rfl))
  | ((with_reducible refine len_ok ?hl ?_); (case hl => exact rfl))
  | ((with_reducible refine ed_dsel3 ?a12 ?a13 ?a23 ?_); (case a12 => decide +kernel); (case a13 => decide +kernel); (case a23 => decide +kernel))
  | with_reducible refine fun _ (_ : New _ _ _) => ?_
  | with_reducible refine cd_lenK (.inr ⟨_, rfl, ?_⟩)
  | with_reducible refine cd_lenK (.inl ⟨_, _, rfl, ?_⟩)
  | with_reducible refine cd_tupleK ?_
  | ((with_reducible refine if_t ?hc ?_); (case hc => first | rfl | decide +kernel))
  | ((with_reducible refine if_f ?hc ?_); (case hc => first | rfl | decide +kernel))
  | with_reducible refine sd_par ?_
  | with_reducible refine sd_par3 ?_
  | with_reducible refine sd_next ?_
  | with_reducible refine sd_ret ?_
  | with_reducible refine sd_seq ?_
  | with_reducible refine sd_asg ?_
  | with_reducible refine gd_name ?_
  | with_reducible refine sd_if ?_)
local macro_rules | `(tactic| walk_at "out") => `(tactic| exact ⟨by assumption, fun _ _ z => by cases z⟩)
local macro_rules | `(tactic| walk_at "eds") => `(tactic| repeat walk_at "ed")

section
variable {P : Program} {w : World} {K : Frag} {mg : Str → Option Value} {base : Heap}
theorem mem_set {α : Type} {l : List α} {n : Nat} {a b : α} (h : b ∈ l.set n a) : b ∈ l ∨ b = a := (List.mem_or_eq_of_mem_set h)
theorem mv_ok {h : Hs} {st : Stt} {i : It} {p : Pl} (s : StOk h st) (hp : PlOk h.hands h.boxes.length p) : StOk h (st.mv i p) := by
  unfold Stt.mv
  cases i.k with
  | box => exact ⟨by rw [List.length_set]; exact s.lb, s.lt, s.ls, fun q hq => (mem_set hq).elim (s.bo q) fun e => e ▸ hp, s.to, s.so⟩
  | thing => exact ⟨s.lb, by rw [List.length_set]; exact s.lt, s.ls, s.bo, fun q hq => (mem_set hq).elim (s.to q) fun e => e ▸ hp, s.so⟩
  | sl => exact ⟨s.lb, s.lt, by rw [List.length_set]; exact s.ls, s.bo, s.to, fun q hq => (mem_set hq).elim (s.so q) fun e => e ▸ hp⟩
abbrev s__law_done : Stmt := topS 74
abbrev N__law_done : List Str := ["_law_state", "_law_deed"]
theorem sc__law_done : FnScope N__law_done ["_law_state", "_law_deed"] (defScope s__law_done) := ⟨rfl, rfl, rfl, by decide +kernel, rfl, by decide +kernel, by decide +kernel⟩
def preDone : Wd → List A → (A → Prop) → Prop := fun _ as κ => ∃ (h : Hs) (st : Stt) (d : Dd), as = [.d st.e, .d d.e] ∧ HsOk h ∧ StOk h st ∧ DdOk h d ∧ Doable st d ∧ ∀ s', StOk h s' → κ (.d s'.e)
theorem ok_done (T : Tx K mg) : Ok P w K mg base 2 ("_law_done", none) ["_law_state", "_law_deed"] (spD K preDone) := by
  have f__law_moved : Ok P w K mg base 1 ("_law_moved", none) ["_law_state", "_law_item", "_law_place_here"] (spD K preMoved) := ok_moved T
  have f__law_lid : Ok P w K mg base 1 ("_law_lid", none) ["_law_state", "_law_box"] (spD K preL) := ok_lid T
  refine okD T.d__law_done sc__law_done (fun _ _ _ _ _ _ us hl => match us, hl with | [_, _], _ => rfl) (fun _ _ _ ⟨_, _, _, e, _⟩ => by rw [e]; rfl) (fun _ _ _ _ h => h) fun f cdv Ar outer s H E hr W as κ ⟨h, st, d, e, h1, h2, h3, h4, k⟩ => ?_
  subst e
  refine ⟨_, (pss_cons (ps_if (pt_cmpR (op_eqDK K hr.units) (pe_ix (ix_tupK K) (pv 1) pe_int (fun _ _ => rfl)) pe_str (nomark _)) (pss_one (ps_ret (pe_cf f__law_moved (hr.mono (by decide)) T.g__law_moved (pa_cons (pv 0) (pa_cons (pe_ix (ix_tupK K) (pv 1) pe_int (fun _ _ => rfl)) (pa_cons (pe_tup (pa_cons pe_str (pa_cons (pe_ix (ix_tupK K) (pv 1) pe_int (fun _ _ => rfl)) pa_nil))) pa_nil)))))) pss_nil)
      (pss_cons (ps_if (pt_cmpR (op_eqDK K hr.units) (pe_ix (ix_tupK K) (pv 1) pe_int (fun _ _ => rfl)) pe_str (nomark _)) (pss_one (ps_ret (pe_cf f__law_moved (hr.mono (by decide)) T.g__law_moved (pa_cons (pv 0) (pa_cons (pe_ix (ix_tupK K) (pv 1) pe_int (fun _ _ => rfl)) (pa_cons (pe_tup (pa_cons pe_str (pa_cons (pe_ix (ix_tupK K) (pv 1) pe_int (fun _ _ => rfl)) pa_nil))) pa_nil)))))) pss_nil)
      (pss_cons (ps_if (pt_cmpR (op_eqDK K hr.units) (pe_ix (ix_tupK K) (pv 1) pe_int (fun _ _ => rfl)) pe_str (nomark _)) (pss_one (ps_ret (pe_cf f__law_moved (hr.mono (by decide)) T.g__law_moved (pa_cons (pv 0) (pa_cons (pe_ix (ix_tupK K) (pv 1) pe_int (fun _ _ => rfl)) (pa_cons (pe_tup (pa_cons pe_str (pa_cons (pe_ix (ix_tupK K) (pv 1) pe_int (fun _ _ => rfl)) pa_nil))) pa_nil)))))) pss_nil)
      (pss_cons (ps_if (pt_cmpR (op_eqDK K hr.units) (pe_ix (ix_tupK K) (pv 1) pe_int (fun _ _ => rfl)) pe_str (nomark _)) (pss_one (ps_ret (pe_cf f__law_moved (hr.mono (by decide)) T.g__law_moved (pa_cons (pv 0) (pa_cons (pe_tup (pa_cons pe_str (pa_cons (pe_ix (ix_tupK K) (pv 1) pe_int (fun _ _ => rfl)) pa_nil))) (pa_cons (pe_tup (pa_cons pe_str (pa_cons (pe_ix (ix_tupK K) (pv 1) pe_int (fun _ _ => rfl)) pa_nil))) pa_nil)))))) pss_nil)
      (pss_one (ps_ret (pe_cf f__law_moved (hr.mono (by decide)) T.g__law_moved (pa_cons (pv 0) (pa_cons (pe_tup (pa_cons pe_str (pa_cons (pe_cf f__law_lid (hr.mono (by decide)) T.g__law_lid (pa_cons (pv 0) (pa_cons (pe_ix (ix_tupK K) (pv 1) pe_int (fun _ _ => rfl)) pa_nil))) pa_nil))) (pa_cons (pe_tup (pa_cons pe_str (pa_cons pe_int pa_nil))) pa_nil)))))))))), ?_⟩
  have hs3 : st.seals.length ≤ 3 := by rw [h2.ls]; exact h1.s3
  have mvd : ∀ {Γ : Gm} (i : It) (p : Pl), ItOk h i → PlOk h.hands h.boxes.length p → preMoved W [.d st.e, .d i.e, .d p.e] (fun a => NewA W Γ a → Out W κ a) := fun {Γ} i p hi hp => by
    obtain ⟨q, hq, _⟩ := st_at h2 hi
    refine ⟨st, i, p, rfl, by rw [hq]; rfl, ?_, ?_, ?_, fun _ => ⟨k _ (mv_ok h2 hp), fun _ _ z => by cases z⟩⟩
    · have := h2.lb; have := h1.b2; omega
    · have := h2.lt; have := h1.t4; omega
    · omega
  cases d with
  | give x i o =>
    dsimp only [Dd.e]
    walk_at "eds"
    exact mvd i (.hand o) h3.2.1 h3.2.2.1
  | put x i b =>
    dsimp only [Dd.e]
    walk_at "eds"
    exact mvd i (.box b) h3.2.1 h3.2.2.2.1
  | take x i b =>
    dsimp only [Dd.e]
    walk_at "eds"
    exact mvd i (.hand x) h3.2.1 h3.1
  | sl x b s =>
    dsimp only [Dd.e]
    walk_at "eds"
    exact mvd ⟨.sl, s⟩ (.box b) h3.2.2 h3.2.1
  | brk x b =>
    dsimp only [Dd.e]
    walk_at "eds"
    refine ⟨st, b, rfl, hs3, fun _ => ?_⟩
    unfold lidA
    cases e : lidOf st b with
    | none => exact absurd e h4
    | some n =>
      walk_at "eds"
      exact mvd ⟨.sl, n⟩ .gone (by have := (lidOf_lt e).1; show n < h.seals.length; rw [← h2.ls]; exact this) trivial
end
end Q47
set_option maxHeartbeats 4000000
/-! ### sorted(l): tuples whose first items are texts -/
namespace Q47
open PySem L2
open PySem.W (Frag)
section
open PySem.W PyProof.Rows SrtO PySem.SeqAt
theorem swo_tk {α : Type} (k : α → List (Int ⊕ List Nat)) : Swo fun v u => PyProof.Rows.lexLt itemOrd (k v) (k u) := by
  refine ⟨fun x y h => ?_, fun x y z h1 h2 => ?_⟩
  · cases e : PyProof.Rows.lexLt itemOrd (k y) (k x) with
    | false => rfl
    | true =>
      have := lex_trans _ _ _ h e
      rw [lex_irrefl] at this
      cases this
  · cases e : PyProof.Rows.lexLt itemOrd (k z) (k x) with
    | false => rfl
    | true =>
      rcases lex_negTrans _ (k y) _ e with q | q
      · rw [h2] at q
        cases q
      · rw [h1] at q
        cases q
/-- two such tuples can be compared: their first items differ, or all is alike -/
def Alk (ds : List PyData) : Prop := (∀ d ∈ ds, d.depth ≤ 30 ∧ d.canLay0 = true ∧ ∃ w r, d = .tuple (.str w :: r)) ∧ ∀ w r r', .tuple (.str w :: r) ∈ ds → .tuple (.str w :: r') ∈ ds → alikeAll r r' = true
section
variable {prog : Program} {w : World} {A : Around} {s : Shared}
def Told (h : Heap) (k : Value → List (Int ⊕ List Nat)) (ds : List PyData) (v : Value) : Prop := ∃ d as, Reads h v d as ∧ d ∈ ds ∧ k v = keyToks d
theorem told_cmp {vs : List Value} {ds : List PyData} {k : Value → List (Int ⊕ List Nat)} (hr : ∀ v ∈ vs, Told s.heap k ds v) (ha : Alk ds) (hu : A.units + 62 < cLine) :
    Cmp prog w A s (tuples' true) (fun p => p.1 ∈ vs) (lt2 fun v u => PyProof.Rows.lexLt itemOrd (k v) (k u)) := by
  intro p q hp hq
  obtain ⟨d, as, r1, m1, e1⟩ := hr _ hp
  obtain ⟨d', bs, r2, m2, e2⟩ := hr _ hq
  show wpAny (model prog w) A (keyLt' (tuples' true) p.1 q.1) (fun r s' => s' = s ∧ r = PyProof.Rows.lexLt itemOrd (k p.1) (k q.1)) (fun _ _ => False) s
  rw [e1, e2]
  generalize p.1 = v at r1
  generalize q.1 = u at r2
  obtain ⟨dp, _, x, xs, rfl⟩ := ha.1 _ m1
  obtain ⟨dp', _, y, ys, rfl⟩ := ha.1 _ m2
  cases r1 with
  | @tuple l o vv n _ as₁ h1 h2 h3 h4 =>
    cases r2 with
    | @tuple l' o' ww n' _ bs₁ k1 k2 k3 k4 =>
      refine kat_lt h1 h3 k1 k3 ?_
      have n1 : vv.size = (PyData.str x :: xs).length := by simpa using ReadsAll.length _ _ _ h4
      have n2 : ww.size = (PyData.str y :: ys).length := by simpa using ReadsAll.length _ _ _ k4
      have eq : PyProof.Rows.lexLt itemOrd (keyToks (.tuple (.str x :: xs))) (keyToks (.tuple (.str y :: ys))) = PyProof.Rows.lexLt itemOrd (keyToksAll (.str x :: xs)) (keyToksAll (.str y :: ys)) := by simp only [keyToks]
      by_cases c : x = y
      · subst c
        refine katLex_alike (.str x :: xs) (.str x :: ys) 0 _ _ _ _ h4 k4 ?_ ?_ (fun _ _ z r t e => by cases e; intro q; cases q) (by rw [n1, n2]) ⟨rfl, eq.symm⟩
        · rw [alikeAll, ha.2 x xs ys m1 m2]
          rfl
        · simp only [PyData.depth] at dp dp'
          have := Nat.min_le_left (PyData.depthAll (.str x :: xs)) (PyData.depthAll (.str x :: ys))
          omega
      · generalize vv.toList = vl at h4
        generalize ww.toList = wl at k4
        cases h4 with
        | cons g1 gs =>
          cases k4 with
          | cons g2 gs2 =>
            cases g1
            cases g2
            rw [List.zip_cons_cons]
            have hne : PyData.eqv (.str x) (.str y) = false := by rw [eqv_str, decide_eq_false c]
            refine kat_cons (EqAt.str_str x _ y _ prog w _ _ ?_)
            have c2 : (x == y) = false := by simpa using c
            refine kat_go (fun z => ?_) (fun _ => ?_)
            · exact absurd z (by simp [c])
            · refine kat_no (oneLt_str ⟨rfl, ?_⟩)
              rw [eq, dataLt_all_no (by simp [alike]) hne, dataLt_str]
theorem told_tups {ds : List PyData} {k : Value → List (Int ⊕ List Nat)} (ha : Alk ds) : ∀ {vs : List Value}, (∀ v ∈ vs, Told s.heap k ds v) → ∃ fs, KatTups s.heap vs fs ∧ fs.length = vs.length ∧ ∀ f ∈ fs, ∃ x t, f = Value.str x t
  | [], _ => ⟨[], KatTups.nil, rfl, fun f h => absurd h (by simp)⟩
  | v :: vs, h => by
    obtain ⟨fs, h1, h2, h3⟩ := told_tups ha (vs := vs) fun u hu => h u (List.mem_cons_of_mem _ hu)
    obtain ⟨d, as, r, m, _⟩ := h v List.mem_cons_self
    obtain ⟨_, _, x, xs, rfl⟩ := ha.1 _ m
    cases r with
    | @tuple l o vv n _ as₁ g1 g2 g3 g4 =>
      obtain ⟨f, t, e⟩ : ∃ f t, f = Value.str x t ∧ vv[0]? = some f := by
        have e : vv[0]? = vv.toList[0]? := by simp
        rw [e]
        generalize vv.toList = vl at g4
        cases g4 with
        | cons g1 gs =>
          cases g1
          exact ⟨_, _, rfl, rfl⟩
      obtain ⟨rfl, e⟩ := e
      exact ⟨_ :: fs, KatTups.cons g1 g2 g3 e h1, by rw [List.length_cons, List.length_cons, h2], fun f hf => by
        rcases List.mem_cons.mp hf with rfl | hf
        · exact ⟨_, _, rfl⟩
        · exact h3 f hf⟩
end
end
theorem RtA.perm {K : Frag} {H : Hp} {ys xs : List V} (h : ys.Perm xs) : ∀ {ds : List PyData}, RtA K H xs ds → ∃ es, es.Perm ds ∧ RtA K H ys es := by
  induction h with
  | nil => exact fun r => ⟨_, List.Perm.refl _, r⟩
  | cons x _ ih =>
    intro ds r
    cases r with
    | cons h1 h2 =>
      obtain ⟨es, p, q⟩ := ih h2
      exact ⟨_ :: es, p.cons _, .cons h1 q⟩
  | swap x y l =>
    intro ds r
    cases r with
    | cons h1 h2 =>
      cases h2 with
      | cons h2 h3 => exact ⟨_, List.Perm.swap _ _ _, .cons h2 (.cons h1 h3)⟩
  | trans _ _ ih1 ih2 =>
    intro ds r
    obtain ⟨es, p, q⟩ := ih2 r
    obtain ⟨fs, p2, q2⟩ := ih1 q
    exact ⟨fs, p2.trans p, q2⟩
def rSortD (K : Frag) : List V → Hp → VK → Prop := fun vs H Q => ∃ (a : Addr) (xs : List V) (ds : List PyData), vs = [V.ref a] ∧ SqL K H a xs ∧ RtA K H xs ds ∧ Alk ds ∧
  ∀ ys es p, RtA K H ys es → es.Perm ds → H p = none → Q (.ref p) (upd H p (.lst ys))
section
open PySem.W PyProof.Rows SrtO PySem.SeqAt
theorem told_all {h : Heap} : ∀ {us : List Value} {ds : List PyData} {as : List Addr}, ReadsAll h us ds as → (∀ d ∈ ds, d.canLay0 = true) → ∀ u ∈ us, Told h (fun v => keyToks (readOf h v)) ds u
  | _, [], _, .nil, _, u, m => by cases m
  | _, d :: ds, _, .cons h1 h2, hc, u, m => by
    rcases List.mem_cons.mp m with rfl | m
    · exact ⟨d, _, h1, List.mem_cons_self, by show keyToks _ = _; rw [readOf_eq (hc d List.mem_cons_self) h1]⟩
    · obtain ⟨d', as, r, m', e⟩ := told_all h2 (fun x hx => hc x (List.mem_cons_of_mem _ hx)) u m
      exact ⟨d', as, r, List.mem_cons_of_mem _ m', e⟩
theorem cr_sortD {X : Cx} (hu : X.A.units + 64 < cLine) : CallR X (.builtin "sorted") (rSortD X.K) := by
  intro pins s σ H vs us Q I r h
  obtain ⟨a, xs, ds, rfl, hs, hx, ha, q⟩ := h
  obtain ⟨its, rv, hl, hz⟩ := I.list hs
  obtain ⟨u, rfl, ru⟩ := vals1 r
  obtain rfl : u = Value.ref a := ru
  obtain ⟨e1, e2⟩ := refs_back rv fun x m => by
    obtain ⟨i, hi, e⟩ := List.mem_iff_getElem.mp m
    obtain ⟨d, hd, rd⟩ := hx.getv (List.getElem?_eq_getElem hi)
    obtain ⟨_, _, x', xs', rfl⟩ := ha.1 d (List.mem_of_getElem? hd)
    rw [e] at rd
    cases rd
    exact ⟨_, rfl⟩
  obtain ⟨as, ra⟩ := Dp.readsAll I ds xs its hx.dp rv
  have told : ∀ u ∈ its, Told s.heap (fun v => keyToks (readOf s.heap v)) ds u := told_all ra fun d m => (ha.1 d m).2.1
  refine sorted_ord (swo_tk fun v => keyToks (readOf s.heap v)) hl.isList (by rw [← rv.length]; exact hz) (fun h2 h₁ a ho kk => ?_) fun out h1 h2 => ?_
  · intro h' keep
    have told' : ∀ u ∈ its, Told h' (fun v => keyToks (readOf s.heap v)) ds u := fun u hu => by
      obtain ⟨d, as, r, m, e⟩ := told u hu
      exact ⟨d, as, PyProof.Rows.Reads.keeps (fun b o e => keep b o (kk b o e).1 (kk b o e).2) r, m, e⟩
    refine ⟨tuples' true, fun Q E hq => ?_, told_cmp (s := { s with heap := h' }) told' ha ?_⟩
    · obtain ⟨fs, f1, f2, f3⟩ := told_tups (s := { s with heap := h' }) ha told'
      refine PySem.W.kat_kind (T := .type "str") f1 (by omega) (fun f hm => ?_) (by rfl) ?_
      · obtain ⟨x, t, rfl⟩ := f3 f hm
        exact PySem.W.Looks.now
      · have e : (Value.type "str" != Value.type "tuple") = true := by first | decide +kernel | rfl | decide
        rw [e]
        exact hq
    · show X.A.units + 1 + 1 + 62 < cLine
      omega
  · have h3 : ∀ u ∈ out, ∃ a, u = Value.ref a := fun u hu => e2 u (h2.perm.mem_iff.mp hu)
    have pm : (out.map backV).Perm xs := by
      rw [e1]
      exact h2.perm.map backV
    obtain ⟨es, p1, p2⟩ := hx.perm pm
    obtain ⟨n, hn⟩ := sortedAll_at s.heap its out.toArray
    refine ⟨.ref (s.heap.objs.size + 1), upd H (s.heap.objs.size + 1) (.lst (out.map backV)), I.laid (t' := s.toks) (fun b o e => sortedAll_old e) (Nat.le_succ _) ⟨?_, out, n, vals_back h3, hn⟩, rfl, q _ _ _ p2 p1 (I.hok.fresh (Nat.le_succ _))⟩
    rw [pm.length_eq]
    exact hz
end
theorem cd_sortD {K : Frag} {W : Wd} {Γ : Gm} {κ : A → Prop} {p : Addr} {ds : List PyData} (ha : Alk ds) (k : ∀ q es, New W Γ q → es.Perm ds → κ (.o q es)) : CD K W Γ (rSortD K) [.o p ds] κ := fun σ vs H Q e hv s q => by
  cases hv with
  | cons hv hn =>
    cases hn
    obtain ⟨rfl, _, us, h1, r⟩ := hv
    refine ⟨p, us, ds, rfl, SqL.of h1, r, ha, fun ys es l ry pe hl => ?_⟩
    have sm := same_new (o := HO.lst ys) hl
    exact q _ _ (.o l es) (Ro.of_same sm) (Wd.same s sm) ⟨rfl, Wd.freshM s hl, _, upd_same, ry.keep (Kp.of_same sm)⟩ (k l es (new_of e s Ro.refl s hl) pe)
end Q47
set_option maxHeartbeats 4000000
/-! ### known -/
namespace Q47
open PySem L2
open PySem.W (Frag)
open PyProof.Rows (envOfC)
theorem cr_sortDK (K : Frag) {X : Cx} (hu : X.A.units + 64 < cLine) (hK : X.K = K := by rfl) : CallR X (.builtin "sorted") (rSortD K) := hK ▸ cr_sortD hu
theorem rgV_nat (n : Nat) : rgV 0 (n : Int) = (List.range n).map fun i : Nat => V.int (i : Int) := by
  unfold rgV
  rw [Int.sub_zero, Int.toNat_natCast]
  exact List.map_congr_left fun i _ => by rw [Int.zero_add]
theorem rt_rng {K : Frag} {H : Hp} (f : Nat → Nat) : ∀ l : List Nat, RtA K H (l.map fun i : Nat => V.int (f i : Int)) (l.map fun i : Nat => PyData.int (f i : Int))
  | [] => .nil
  | _ :: l => .cons (.int _) (rt_rng f l)
section
variable {K : Frag} {W : Wd} {Γ : Gm} {κ : A → Prop} {ta : TE}
theorem ed_lstRg (h : ED K W ta Γ fun a => ∃ n : Nat, a = .d (.int (n : Int)) ∧ n ≤ 100000 ∧ ∀ p, New W Γ p → κ (.o p ((List.range n).map fun i : Nat => .int (i : Int)))) : ED K W (tLstRg (tRg1 ta)) Γ κ := fun σ H Q e s q =>
  h σ H _ e s fun v H1 a r1 s1 ha k => by
    obtain ⟨n, rfl, hn, k⟩ := k
    cases ha
    refine ⟨_, rfl, RgOk.of_le (by omega) (by omega) (by omega) (by omega), fun p hp => ?_⟩
    have sm := same_new (o := HO.lst (rgV 0 (n : Int))) hp
    exact q _ _ (.o p _) (r1.trans (Ro.of_same sm)) (Wd.same s1 sm) ⟨rfl, Wd.freshM s1 hp, _, upd_same, by rw [rgV_nat]; exact rt_rng (fun i => i) _⟩ (k p (new_of e s r1 s1 hp))
end
theorem shp_nil : Shp 1 (.tuple []) := shp_tup (n := 0) fun d m => by cases m
local macro_rules | `(tactic| walk_at "shp") => `(tactic| first
  | with_reducible exact (shp_int _).ok
  | with_reducible exact (shp_pl _).ok
  | with_reducible exact (shp_bool _).ok
  | with_reducible exact (shp_it _).ok
  | with_reducible exact (shp_str (by decide +kernel)).ok
  | with_reducible exact (shp_2 (shp_str (by decide +kernel)) (shp_int _)).ok
  | with_reducible exact (shp_st _).ok
  | with_reducible exact (shp_str (kd_ok _)).ok
  | with_reducible exact (shp_str (pl_ok _)).ok
  | with_reducible exact (shp_pls _).ok
  | with_reducible exact (shp_hs _).ok
  | with_reducible exact shp_nil.ok
  | with_reducible exact (shp_dd _).ok
  | with_reducible exact (shp_sg _).ok
  | with_reducible exact (shp_rw _).ok
  | assumption)
local macro_rules | `(tactic| walk_at "ed") => `(tactic| first
  | ((with_reducible refine' ed_var ?hv ?_); (case hv => exact rfl))
  | with_reducible refine ed_int ?_
  | with_reducible refine ed_str ?_
  | with_reducible refine ed_bl ?_
  | with_reducible refine ed_non ?_
  | with_reducible refine edd_cons ?_
  | with_reducible refine edd_nil ?_
  | with_reducible refine eda_cons ?_
  | with_reducible refine eda_nil ?_
  | with_reducible refine ⟨_, rfl, ?_⟩
  | with_reducible refine ⟨_, _, rfl, ?_⟩
  | with_reducible refine ⟨_, _, _, rfl, ?_⟩
  | with_reducible refine ed_tupD ?_
  | with_reducible refine ed_lstD ?_
  | with_reducible refine ed_op ?_
  | with_reducible refine ed_lstRg ?_
  | with_reducible refine ed_cb ?_
  | with_reducible refine ed_call ?_
  | with_reducible refine ed_and ?_
  | with_reducible refine ed_or ?_
  | with_reducible refine ed_not ?_
  | with_reducible refine ed_if ?_
  | with_reducible refine td_test ?_
  | with_reducible refine td_B ?_
  | with_reducible refine td_and ?_
  | with_reducible refine td_or ?_
  | with_reducible refine td_not ?_
  | with_reducible refine td_yes ?_
  | with_reducible refine rd_I0 ?_
  | with_reducible refine rd_B0 ?_
  | ((with_reducible refine rd_eq ?hx ?hy ?_); (case hx => walk_at "shp"); (case hy => walk_at "shp"))
  | ((with_reducible refine rd_ne ?hx ?hy ?_); (case hx => walk_at "shp"); (case hy => walk_at "shp"))
  | ((with_reducible refine' rd_ixTi ?h0 ?hi ?_); (case h0 => decide); (case hi => exact rfl))
  | ((with_reducible refine len_ok ?hl ?_); (case hl => exact rfl))
  | ((with_reducible refine ed_dsel3 ?a12 ?a13 ?a23 ?_); (case a12 => decide +kernel); (case a13 => decide +kernel); (case a23 => decide +kernel))
  | with_reducible refine fun _ (_ : New _ _ _) => ?_
  | with_reducible refine cd_lenK (.inr ⟨_, rfl, ?_⟩)
  | with_reducible refine cd_lenK (.inl ⟨_, _, rfl, ?_⟩)
  | with_reducible refine cd_tupleK ?_
  | ((with_reducible refine if_t ?hc ?_); (case hc => first | rfl | decide +kernel))
  | ((with_reducible refine if_f ?hc ?_); (case hc => first | rfl | decide +kernel))
  | with_reducible refine sd_par ?_
  | with_reducible refine sd_par3 ?_
  | with_reducible refine sd_next ?_
  | with_reducible refine sd_ret ?_
  | with_reducible refine sd_seq ?_
  | with_reducible refine sd_asg ?_
  | with_reducible refine gd_name ?_
  | with_reducible refine sd_if ?_)
local macro_rules | `(tactic| walk_at "out") => `(tactic| exact ⟨by assumption, fun _ _ z => by cases z⟩)
local macro_rules | `(tactic| walk_at "eds") => `(tactic| repeat walk_at "ed")

theorem alk_dd {ds : List PyData} (h : ∀ d ∈ ds, ∃ x : Dd, d = x.e) : Alk ds := by
  refine ⟨fun d m => ?_, fun w r r' m m' => ?_⟩
  · obtain ⟨x, rfl⟩ := h d m
    have q := shp_dd x
    refine ⟨Nat.le_trans q.2 (by decide), q.1, ?_⟩
    cases x <;> exact ⟨_, _, rfl⟩
  · obtain ⟨x, e⟩ := h _ m
    obtain ⟨y, e'⟩ := h _ m'
    have n1 : ¬ (("give" : Str) = "put") := by decide +kernel
    have n2 : ¬ (("give" : Str) = "take") := by decide +kernel
    have n3 : ¬ (("give" : Str) = "seal") := by decide +kernel
    have n4 : ¬ (("give" : Str) = "break") := by decide +kernel
    have n5 : ¬ (("put" : Str) = "take") := by decide +kernel
    have n6 : ¬ (("put" : Str) = "seal") := by decide +kernel
    have n7 : ¬ (("put" : Str) = "break") := by decide +kernel
    have n8 : ¬ (("take" : Str) = "seal") := by decide +kernel
    have n9 : ¬ (("take" : Str) = "break") := by decide +kernel
    have n10 : ¬ (("seal" : Str) = "break") := by decide +kernel
    cases x <;> cases y <;> (simp only [Dd.e, PyData.tuple.injEq, List.cons.injEq, PyData.str.injEq] at e e'; obtain ⟨rfl, rfl⟩ := e; obtain ⟨w1, rfl⟩ := e'; first | (exact absurd w1 (by assumption)) | (exact absurd w1.symm (by assumption)) | simp [PySem.W.alikeAll, PySem.W.alike])
section
variable {P : Program} {w : World} {K : Frag} {mg : Str → Option Value} {base : Heap}
abbrev s__law_known : Stmt := topS 75
abbrev N__law_known : List Str := ["_law_drawn_here", "_law_hands", "_law_found", "_law_items_here", "_law_boxes", "_law_seals", "_law_hand", "_law_item", "_law_other", "_law_box", "_law_seal"]
theorem sc__law_known : FnScope N__law_known ["_law_drawn_here", "_law_hands"] (defScope s__law_known) := ⟨rfl, rfl, rfl, by decide +kernel, rfl, by decide +kernel, by decide +kernel⟩
def HsA (hs : List Nat) (a : A) : Prop := a = .d (natsE hs) ∨ ∃ p, a = .o p (hs.map fun n : Nat => .int (n : Int))
def DsOk (h : Hs) (acc : List PyData) : Prop := ∃ ds : List Dd, acc = ds.map Dd.e ∧ ∀ d ∈ ds, DdOk h d
theorem DsOk.nil {h : Hs} : DsOk h [] := ⟨[], rfl, fun _ m => by cases m⟩
theorem DsOk.app {h : Hs} {a b : List PyData} : DsOk h a → DsOk h b → DsOk h (a ++ b)
  | ⟨x, e, g⟩, ⟨y, e', g'⟩ => ⟨x ++ y, by rw [e, e', List.map_append], fun d m => (List.mem_append.mp m).elim (g d) (g' d)⟩
theorem DsOk.one {h : Hs} {d : Dd} (g : DdOk h d) : DsOk h [d.e] := ⟨[d], rfl, fun x m => by rw [List.mem_singleton.mp m]; exact g⟩
theorem DsOk.snoc {h : Hs} {a : List PyData} {d : Dd} {x : PyData} (o : DsOk h a) (g : DdOk h d) (e : x = d.e) : DsOk h (a ++ [x]) := e ▸ o.app (.one g)
def preKnown : Wd → List A → (A → Prop) → Prop := fun _ as κ => ∃ (h : Hs) (hs : List Nat) (a : A), as = [.d h.e, a] ∧ HsA hs a ∧ HsOk h ∧ (∀ x ∈ hs, x < h.hands) ∧ hs.length ≤ 4 ∧ ∀ p (ds : List Dd), ds.length ≤ 50000 → (∀ d ∈ ds, DdOk h d) → κ (.o p (ds.map Dd.e))
/-- between two turns -/
def KnI (h : Hs) (a : A) (pi pb ps : Addr) (n : Nat) (Γ : Gm) : Prop := ∃ p acc x1 x2 x3 x4 x5, Γ = [some (.d h.e), some a, some (.o p acc), some (.o pi ((itemsOf h).map It.e)), some (.o pb ((List.range h.boxes.length).map fun i : Nat => .int (i : Int))), some (.o ps ((List.range h.seals.length).map fun i : Nat => .int (i : Int))), x1, x2, x3, x4, x5] ∧ DsOk h acc ∧ acc.length ≤ n
/-- .. within a hand's turn -/
def KnJ (h : Hs) (a : A) (pi pb ps : Addr) (x : Nat) (n : Nat) (Γ : Gm) : Prop := ∃ p acc x2 x3 x4 x5, Γ = [some (.d h.e), some a, some (.o p acc), some (.o pi ((itemsOf h).map It.e)), some (.o pb ((List.range h.boxes.length).map fun i : Nat => .int (i : Int))), some (.o ps ((List.range h.seals.length).map fun i : Nat => .int (i : Int))), some (.d (.int (x : Int))), x2, x3, x4, x5] ∧ DsOk h acc ∧ acc.length ≤ n
theorem DsOk.perm {h : Hs} {a b : List PyData} (p : b.Perm a) (o : DsOk h a) : DsOk h b := by
  obtain ⟨ds, rfl, ok⟩ := o
  have q : ∀ l : List PyData, (∀ x ∈ l, ∃ d, x = Dd.e d ∧ DdOk h d) → DsOk h l := fun l => by
    induction l with
    | nil => exact fun _ => DsOk.nil
    | cons x l ih =>
      intro m
      obtain ⟨d, rfl, g⟩ := m x List.mem_cons_self
      exact (DsOk.one g).app (ih fun y hy => m y (List.mem_cons_of_mem _ hy))
  refine q b fun x hx => ?_
  obtain ⟨d, hd, rfl⟩ := List.mem_map.mp (p.mem_iff.mp hx)
  exact ⟨d, rfl, ok d hd⟩
theorem items_ok {h : Hs} {i : It} (m : i ∈ itemsOf h) : ItOk h i := by
  unfold itemsOf itemsB itemsS itemsT at m
  simp only [List.mem_append, List.mem_map, List.mem_range] at m
  rcases m with (⟨k, hk, rfl⟩ | ⟨k, hk, rfl⟩) | ⟨k, hk, rfl⟩ <;> exact hk
theorem items_len (h : Hs) : (itemsOf h).length = h.boxes.length + h.seals.length + h.things.length := by
  unfold itemsOf itemsB itemsS itemsT
  simp
  omega
theorem map_at2 {α : Type} {l : List α} {f : α → PyData} {i : Nat} {d : PyData} (h : (l.map f)[i]? = some d) : ∃ a, a ∈ l ∧ d = f a := by
  obtain ⟨a, e, rfl⟩ := map_at' h
  exact ⟨a, List.mem_of_getElem? e, rfl⟩
theorem ok_known (T : Tx K mg) : Ok P w K mg base 2 ("_law_known", none) ["_law_drawn_here", "_law_hands"] (spD K preKnown) := by
  have f__law_items : Ok P w K mg base 1 ("_law_items", none) ["_law_house_here"] (spD K preIt) := ok_items T
  refine okD T.d__law_known sc__law_known (fun _ _ _ _ _ _ us hl => match us, hl with | [_, _], _ => rfl) (fun _ _ _ ⟨_, _, _, e, _⟩ => by rw [e]; rfl) (fun _ _ _ _ h => h) fun f cdv Ar outer s H E hr W as κ ⟨h, hs, a, e, ha, hh, hx, hl, k⟩ => ?_
  subst e
  have b2 := hh.b2
  have t4 := hh.t4
  have s3 := hh.s3
  rcases ha with rfl | ⟨pa, rfl⟩
  case' inl => refine ⟨_, (pss_cons (ps_par (i := 2) (j := 3) (by rfl) sc__law_known.nd rfl rfl (by decide) rfl rfl (pa_cons (pe_lst pa_nil) (pa_cons (pe_cf f__law_items (hr.mono (by decide)) T.g__law_items (pa_cons (pv 0) pa_nil)) pa_nil)) (by rfl))
      (pss_cons (ps_par (i := 4) (j := 5) (by rfl) sc__law_known.nd rfl rfl (by decide) rfl rfl (pa_cons (pe_listRg rfl rfl T.b_list (prg_1 rfl T.b_range (pe_callB (call_lenK K) (by rfl) T.b_len (by decide +kernel) (pa_cons (pe_ix (ix_tupK K) (pv 0) pe_int (fun _ _ => rfl)) pa_nil)))) (pa_cons (pe_listRg rfl rfl T.b_list (prg_1 rfl T.b_range (pe_callB (call_lenK K) (by rfl) T.b_len (by decide +kernel) (pa_cons (pe_ix (ix_tupK K) (pv 0) pe_int (fun _ _ => rfl)) pa_nil)))) pa_nil)) (by rfl))
      (pss_cons (ps_for PassesOwn.never rfl (pi_tupK K (pv 1)) (pg_name (i := 6) sc__law_known.nd rfl (Or.inr rfl)) (pss_cons (ps_for PassesOwn.never rfl (pi_listK K (pv 3)) (pg_name (i := 7) sc__law_known.nd rfl (Or.inr rfl)) (pss_cons (ps_set (i := 2) sc__law_known.nd rfl (Or.inl rfl) (pe_op op_cat (pv 2) (pe_lc (own := [("_law_other", 8)]) rfl sc__law_known.nd (pi_tupK K (pv 1)) (blkOk_by (own := [("_law_other", 8)]) (N := N__law_known) (sc := defScope s__law_known) (by decide +kernel)) (fun _ _ _ _ _ => (pg_name (i := 8) sc__law_known.nd rfl (Or.inl rfl))) (fun _ _ _ _ _ => pts_one (pt_cmpR (op_neDK K hr.units) (pv 8) (pv 6) (nomark _))) (fun _ _ _ _ _ => (pe_tup (pa_cons pe_str (pa_cons (pv 6) (pa_cons (pv 7) (pa_cons (pv 8) pa_nil)))))))))
      (pss_one (ps_if (pt_cmpR (op_neDK K hr.units) (pe_ix (ix_tupK K) (pv 7) pe_int (fun _ _ => rfl)) pe_str (nomark _)) (pss_cons (ps_set (i := 2) sc__law_known.nd rfl (Or.inl rfl) (pe_op op_cat (pv 2) (pe_lc (own := [("_law_box", 9)]) rfl sc__law_known.nd (pi_listK K (pv 4)) (blkOk_by (own := [("_law_box", 9)]) (N := N__law_known) (sc := defScope s__law_known) (by decide +kernel)) (fun _ _ _ _ _ => (pg_name (i := 9) sc__law_known.nd rfl (Or.inl rfl))) (fun _ _ _ _ _ => pts_one (pt_cmpR (op_neDK K hr.units) (pv 7) (pe_tup (pa_cons pe_str (pa_cons (pv 9) pa_nil))) (nomark _))) (fun _ _ _ _ _ => (pe_tup (pa_cons pe_str (pa_cons (pv 6) (pa_cons (pv 7) (pa_cons (pv 9) pa_nil)))))))))
      (pss_one (ps_set (i := 2) sc__law_known.nd rfl (Or.inl rfl) (pe_op op_cat (pv 2) (pe_lc (own := [("_law_box", 9)]) rfl sc__law_known.nd (pi_listK K (pv 4)) (blkOk_by (own := [("_law_box", 9)]) (N := N__law_known) (sc := defScope s__law_known) (by decide +kernel)) (fun _ _ _ _ _ => (pg_name (i := 9) sc__law_known.nd rfl (Or.inl rfl))) (fun _ _ _ _ _ => pts_one (pt_cmpR (op_neDK K hr.units) (pv 7) (pe_tup (pa_cons pe_str (pa_cons (pv 9) pa_nil))) (nomark _))) (fun _ _ _ _ _ => (pe_tup (pa_cons pe_str (pa_cons (pv 6) (pa_cons (pv 7) (pa_cons (pv 9) pa_nil))))))))))) pss_nil))))
      (pss_one (ps_for PassesOwn.never rfl (pi_listK K (pv 4)) (pg_name (i := 9) sc__law_known.nd rfl (Or.inr rfl)) (pss_one (ps_set (i := 2) sc__law_known.nd rfl (Or.inl rfl) (pe_op op_cat (pe_op op_cat (pv 2) (pe_lst (pa_cons (pe_tup (pa_cons pe_str (pa_cons (pv 6) (pa_cons (pv 9) pa_nil)))) pa_nil))) (pe_lc (own := [("_law_seal", 10)]) rfl sc__law_known.nd (pi_listK K (pv 5)) (blkOk_by (own := [("_law_seal", 10)]) (N := N__law_known) (sc := defScope s__law_known) (by decide +kernel)) (fun _ _ _ _ _ => (pg_name (i := 10) sc__law_known.nd rfl (Or.inl rfl))) (fun _ _ _ _ _ => pts_nil) (fun _ _ _ _ _ => (pe_tup (pa_cons pe_str (pa_cons (pv 6) (pa_cons (pv 9) (pa_cons (pv 10) pa_nil))))))))))))))
      (pss_one (ps_ret (pe_callB (cr_sortDK K hr.units) (by rfl) T.b_sorted (by decide +kernel) (pa_cons (pv 2) pa_nil))))))), ?_⟩
  case' inr => refine ⟨_, (pss_cons (ps_par (i := 2) (j := 3) (by rfl) sc__law_known.nd rfl rfl (by decide) rfl rfl (pa_cons (pe_lst pa_nil) (pa_cons (pe_cf f__law_items (hr.mono (by decide)) T.g__law_items (pa_cons (pv 0) pa_nil)) pa_nil)) (by rfl))
      (pss_cons (ps_par (i := 4) (j := 5) (by rfl) sc__law_known.nd rfl rfl (by decide) rfl rfl (pa_cons (pe_listRg rfl rfl T.b_list (prg_1 rfl T.b_range (pe_callB (call_lenK K) (by rfl) T.b_len (by decide +kernel) (pa_cons (pe_ix (ix_tupK K) (pv 0) pe_int (fun _ _ => rfl)) pa_nil)))) (pa_cons (pe_listRg rfl rfl T.b_list (prg_1 rfl T.b_range (pe_callB (call_lenK K) (by rfl) T.b_len (by decide +kernel) (pa_cons (pe_ix (ix_tupK K) (pv 0) pe_int (fun _ _ => rfl)) pa_nil)))) pa_nil)) (by rfl))
      (pss_cons (ps_for PassesOwn.never rfl (pi_listK K (pv 1)) (pg_name (i := 6) sc__law_known.nd rfl (Or.inr rfl)) (pss_cons (ps_for PassesOwn.never rfl (pi_listK K (pv 3)) (pg_name (i := 7) sc__law_known.nd rfl (Or.inr rfl)) (pss_cons (ps_set (i := 2) sc__law_known.nd rfl (Or.inl rfl) (pe_op op_cat (pv 2) (pe_lc (own := [("_law_other", 8)]) rfl sc__law_known.nd (pi_listK K (pv 1)) (blkOk_by (own := [("_law_other", 8)]) (N := N__law_known) (sc := defScope s__law_known) (by decide +kernel)) (fun _ _ _ _ _ => (pg_name (i := 8) sc__law_known.nd rfl (Or.inl rfl))) (fun _ _ _ _ _ => pts_one (pt_cmpR (op_neDK K hr.units) (pv 8) (pv 6) (nomark _))) (fun _ _ _ _ _ => (pe_tup (pa_cons pe_str (pa_cons (pv 6) (pa_cons (pv 7) (pa_cons (pv 8) pa_nil)))))))))
      (pss_one (ps_if (pt_cmpR (op_neDK K hr.units) (pe_ix (ix_tupK K) (pv 7) pe_int (fun _ _ => rfl)) pe_str (nomark _)) (pss_cons (ps_set (i := 2) sc__law_known.nd rfl (Or.inl rfl) (pe_op op_cat (pv 2) (pe_lc (own := [("_law_box", 9)]) rfl sc__law_known.nd (pi_listK K (pv 4)) (blkOk_by (own := [("_law_box", 9)]) (N := N__law_known) (sc := defScope s__law_known) (by decide +kernel)) (fun _ _ _ _ _ => (pg_name (i := 9) sc__law_known.nd rfl (Or.inl rfl))) (fun _ _ _ _ _ => pts_one (pt_cmpR (op_neDK K hr.units) (pv 7) (pe_tup (pa_cons pe_str (pa_cons (pv 9) pa_nil))) (nomark _))) (fun _ _ _ _ _ => (pe_tup (pa_cons pe_str (pa_cons (pv 6) (pa_cons (pv 7) (pa_cons (pv 9) pa_nil)))))))))
      (pss_one (ps_set (i := 2) sc__law_known.nd rfl (Or.inl rfl) (pe_op op_cat (pv 2) (pe_lc (own := [("_law_box", 9)]) rfl sc__law_known.nd (pi_listK K (pv 4)) (blkOk_by (own := [("_law_box", 9)]) (N := N__law_known) (sc := defScope s__law_known) (by decide +kernel)) (fun _ _ _ _ _ => (pg_name (i := 9) sc__law_known.nd rfl (Or.inl rfl))) (fun _ _ _ _ _ => pts_one (pt_cmpR (op_neDK K hr.units) (pv 7) (pe_tup (pa_cons pe_str (pa_cons (pv 9) pa_nil))) (nomark _))) (fun _ _ _ _ _ => (pe_tup (pa_cons pe_str (pa_cons (pv 6) (pa_cons (pv 7) (pa_cons (pv 9) pa_nil))))))))))) pss_nil))))
      (pss_one (ps_for PassesOwn.never rfl (pi_listK K (pv 4)) (pg_name (i := 9) sc__law_known.nd rfl (Or.inr rfl)) (pss_one (ps_set (i := 2) sc__law_known.nd rfl (Or.inl rfl) (pe_op op_cat (pe_op op_cat (pv 2) (pe_lst (pa_cons (pe_tup (pa_cons pe_str (pa_cons (pv 6) (pa_cons (pv 9) pa_nil)))) pa_nil))) (pe_lc (own := [("_law_seal", 10)]) rfl sc__law_known.nd (pi_listK K (pv 5)) (blkOk_by (own := [("_law_seal", 10)]) (N := N__law_known) (sc := defScope s__law_known) (by decide +kernel)) (fun _ _ _ _ _ => (pg_name (i := 10) sc__law_known.nd rfl (Or.inl rfl))) (fun _ _ _ _ _ => pts_nil) (fun _ _ _ _ _ => (pe_tup (pa_cons pe_str (pa_cons (pv 6) (pa_cons (pv 9) (pa_cons (pv 10) pa_nil))))))))))))))
      (pss_one (ps_ret (pe_callB (cr_sortDK K hr.units) (by rfl) T.b_sorted (by decide +kernel) (pa_cons (pv 2) pa_nil))))))), ?_⟩
  all_goals
    walk_at "eds"
    refine ⟨h, rfl, by omega, t4, s3, fun pi _ => ?_⟩
    walk_at "eds"
    simp only [List.length_map]
    refine ⟨by omega, fun pb _ => ?_⟩
    walk_at "eds"
    simp only [List.length_map]
    refine ⟨by omega, fun ps _ => ?_⟩
    walk_at "eds"
  case inl =>
    refine sd_forT (fun i Γ' => KnI h (.d (natsE hs)) pi pb ps (1000 * i) Γ') (ed_var rfl rfl) ⟨_, [], none, none, none, none, none, rfl, DsOk.nil, Nat.zero_le _⟩ (fun i d Γ' hd ⟨p, acc, x1, x2, x3, x4, x5, eΓ, ok, len⟩ => ?_) (fun Γ' ⟨p, acc, x1, x2, x3, x4, x5, eΓ, ok, len⟩ => ?_)
    · subst eΓ
      obtain ⟨x, hxm, rfl⟩ := map_at2 hd
      have hi4 : i < 4 := by
        have := (List.getElem?_eq_some_iff.mp hd).1
        rw [List.length_map] at this
        omega
      walk_at "eds"
      refine sd_forL (fun j Γ' => KnJ h (.d (natsE hs)) pi pb ps x (1000 * i + 20 * j) Γ') (ed_var rfl rfl) ⟨p, acc, _, _, _, _, rfl, ok, by omega⟩ (fun j Γ' ⟨_, _, _, _, _, _, e, _⟩ => ⟨3, by rw [e]; rfl⟩) (fun j d Γ' hd ⟨p, acc, x2, x3, x4, x5, eΓ, ok, len⟩ => ?_) (fun Γ' ⟨p, acc, x2, x3, x4, x5, eΓ, ok, len⟩ => ?_)
      · subst eΓ
        obtain ⟨it, him, rfl⟩ := map_at2 hd
        have hit := items_ok him
        have hj : j < 9 := by
          have := (List.getElem?_eq_some_iff.mp hd).1
          rw [List.length_map, items_len] at this
          omega
        walk_at "eds"
        first | refine ed_lcT (by decide) ?_ | refine ed_lcL (by decide) ?_
        walk_at "eds"
        refine ⟨by rw [List.length_map]; omega, fun _ acc => DsOk h acc, DsOk.nil, fun k2 d2 acc2 hd2 ok2 => ?_, fun q2 acc2 hq2 hl2 ok2 => ?_⟩
        · obtain ⟨o, hom, rfl⟩ := map_at2 hd2
          walk_at "eds"
          rw [eqv_nat]
          refine if_b (fun hc => ?_) fun hc => ok2
          walk_at "eds"
          exact ok2.snoc (d := .give x it o) ⟨hx _ hxm, hit, hx _ hom, by simpa using hc⟩ rfl
        rw [List.length_map] at hl2
        refine rd_cat (by omega) fun p3 hp3 => ?_
        walk_at "eds"
        rw [eqv_str]
        refine if_b (fun hc => ?_) fun hc => ?_
        · have hk : it.k ≠ .sl := fun z => by
            rw [z] at hc
            exact absurd hc (by decide +kernel)
          walk_at "eds"
          refine ed_lcL (by decide) ?_
          walk_at "eds"
          refine ⟨by rw [List.length_map, List.length_range]; omega, fun _ acc => DsOk h acc, DsOk.nil, fun k3 d3 acc3 hd3 ok3 => ?_, fun q3 acc3 hq3 hl3 ok3 => ?_⟩
          · obtain ⟨b, hbm, rfl⟩ := map_at2 hd3
            have hb := List.mem_range.mp hbm
            walk_at "eds"
            rw [show (PyData.tuple [.str "box", .int (b : Int)]) = It.e ⟨.box, b⟩ from rfl, eqv_it]
            refine if_b (fun hc => ?_) fun _ => ok3
            walk_at "eds"
            exact ok3.snoc (d := .put x it b) ⟨hx _ hxm, hit, hk, hb, by simpa using hc⟩ rfl
          rw [List.length_map, List.length_range] at hl3
          refine rd_cat (by rw [List.length_append]; omega) fun p4 hp4 => ?_
          walk_at "eds"
          refine ed_lcL (by decide) ?_
          walk_at "eds"
          refine ⟨by rw [List.length_map, List.length_range]; omega, fun _ acc => DsOk h acc, DsOk.nil, fun k4 d4 acc4 hd4 ok4 => ?_, fun q4 acc4 hq4 hl4 ok4 => ?_⟩
          · obtain ⟨b, hbm, rfl⟩ := map_at2 hd4
            have hb := List.mem_range.mp hbm
            walk_at "eds"
            rw [show (PyData.tuple [.str "box", .int (b : Int)]) = It.e ⟨.box, b⟩ from rfl, eqv_it]
            refine if_b (fun hc => ?_) fun _ => ok4
            walk_at "eds"
            exact ok4.snoc (d := .take x it b) ⟨hx _ hxm, hit, hk, hb, by simpa using hc⟩ rfl
          rw [List.length_map, List.length_range] at hl4
          refine rd_cat (by rw [List.length_append, List.length_append]; omega) fun p5 hp5 => ?_
          walk_at "eds"
          exact ⟨_, _, _, _, _, _, rfl, ((ok.app ok2).app ok3).app ok4, by simp only [List.length_append]; omega⟩
        · walk_at "eds"
          exact ⟨_, _, _, _, _, _, rfl, ok.app ok2, by simp only [List.length_append]; omega⟩
      · subst eΓ
        rw [List.length_map, items_len] at len
        refine sd_forL (fun j Γ' => KnJ h (.d (natsE hs)) pi pb ps x (1000 * i + 200 + 20 * j) Γ') (ed_var rfl rfl) ⟨p, acc, _, _, _, _, rfl, ok, by omega⟩ (fun j Γ' ⟨_, _, _, _, _, _, e, _⟩ => ⟨4, by rw [e]; rfl⟩) (fun j d Γ' hd ⟨p, acc, x2, x3, x4, x5, eΓ, ok, len⟩ => ?_) (fun Γ' ⟨p, acc, x2, x3, x4, x5, eΓ, ok, len⟩ => ⟨p, acc, _, x2, x3, x4, x5, eΓ, ok, ?_⟩)
        · subst eΓ
          obtain ⟨b, hbm, rfl⟩ := map_at2 hd
          have hb := List.mem_range.mp hbm
          have hj : j < 3 := by
            have := (List.getElem?_eq_some_iff.mp hd).1
            rw [List.length_map, List.length_range] at this
            omega
          walk_at "eds"
          refine rd_cat (by show acc.length + 1 ≤ 100000; omega) fun p3 hp3 => ?_
          walk_at "eds"
          refine ed_lcL (by decide) ?_
          walk_at "eds"
          refine ⟨by rw [List.length_map, List.length_range]; omega, fun _ acc => DsOk h acc, DsOk.nil, fun k3 d3 acc3 hd3 ok3 => ?_, fun q3 acc3 hq3 hl3 ok3 => ?_⟩
          · obtain ⟨sl, hsm, rfl⟩ := map_at2 hd3
            walk_at "eds"
            exact ok3.snoc (d := .sl x b sl) ⟨hx _ hxm, hb, List.mem_range.mp hsm⟩ rfl
          rw [List.length_map, List.length_range] at hl3
          refine rd_cat (by rw [List.length_append]; show acc.length + 1 + acc3.length ≤ 100000; omega) fun p4 hp4 => ?_
          walk_at "eds"
          exact ⟨_, _, _, _, _, _, rfl, (ok.app (DsOk.one (d := .brk x b) ⟨hx _ hxm, hb⟩)).app ok3, by rw [List.length_append, List.length_append]; show acc.length + 1 + acc3.length ≤ _; omega⟩
        · rw [List.length_map, List.length_range] at len
          omega
    · subst eΓ
      walk_at "eds"
      refine cd_sortD (alk_dd fun d m => ?_) fun q es hq pe => ?_
      · obtain ⟨ds, rfl, _⟩ := ok
        obtain ⟨x, _, rfl⟩ := List.mem_map.mp m
        exact ⟨x, rfl⟩
      · obtain ⟨ds, rfl, okd⟩ := ok.perm pe
        have l2 := pe.length_eq
        rw [List.length_map] at l2 len
        exact ⟨k q ds (by omega) okd, fun _ _ z => by cases z; exact hq.o⟩
  case inr =>
    refine sd_forL (fun i Γ' => KnI h (.o pa (hs.map fun n : Nat => .int (n : Int))) pi pb ps (1000 * i) Γ') (ed_var rfl rfl) ⟨_, [], none, none, none, none, none, rfl, DsOk.nil, Nat.zero_le _⟩ (fun i Γ' ⟨_, _, _, _, _, _, _, e, _⟩ => ⟨1, by rw [e]; rfl⟩) (fun i d Γ' hd ⟨p, acc, x1, x2, x3, x4, x5, eΓ, ok, len⟩ => ?_) (fun Γ' ⟨p, acc, x1, x2, x3, x4, x5, eΓ, ok, len⟩ => ?_)
    · subst eΓ
      obtain ⟨x, hxm, rfl⟩ := map_at2 hd
      have hi4 : i < 4 := by
        have := (List.getElem?_eq_some_iff.mp hd).1
        rw [List.length_map] at this
        omega
      walk_at "eds"
      refine sd_forL (fun j Γ' => KnJ h (.o pa (hs.map fun n : Nat => .int (n : Int))) pi pb ps x (1000 * i + 20 * j) Γ') (ed_var rfl rfl) ⟨p, acc, _, _, _, _, rfl, ok, by omega⟩ (fun j Γ' ⟨_, _, _, _, _, _, e, _⟩ => ⟨3, by rw [e]; rfl⟩) (fun j d Γ' hd ⟨p, acc, x2, x3, x4, x5, eΓ, ok, len⟩ => ?_) (fun Γ' ⟨p, acc, x2, x3, x4, x5, eΓ, ok, len⟩ => ?_)
      · subst eΓ
        obtain ⟨it, him, rfl⟩ := map_at2 hd
        have hit := items_ok him
        have hj : j < 9 := by
          have := (List.getElem?_eq_some_iff.mp hd).1
          rw [List.length_map, items_len] at this
          omega
        walk_at "eds"
        first | refine ed_lcT (by decide) ?_ | refine ed_lcL (by decide) ?_
        walk_at "eds"
        refine ⟨by rw [List.length_map]; omega, fun _ acc => DsOk h acc, DsOk.nil, fun k2 d2 acc2 hd2 ok2 => ?_, fun q2 acc2 hq2 hl2 ok2 => ?_⟩
        · obtain ⟨o, hom, rfl⟩ := map_at2 hd2
          walk_at "eds"
          rw [eqv_nat]
          refine if_b (fun hc => ?_) fun hc => ok2
          walk_at "eds"
          exact ok2.snoc (d := .give x it o) ⟨hx _ hxm, hit, hx _ hom, by simpa using hc⟩ rfl
        rw [List.length_map] at hl2
        refine rd_cat (by omega) fun p3 hp3 => ?_
        walk_at "eds"
        rw [eqv_str]
        refine if_b (fun hc => ?_) fun hc => ?_
        · have hk : it.k ≠ .sl := fun z => by
            rw [z] at hc
            exact absurd hc (by decide +kernel)
          walk_at "eds"
          refine ed_lcL (by decide) ?_
          walk_at "eds"
          refine ⟨by rw [List.length_map, List.length_range]; omega, fun _ acc => DsOk h acc, DsOk.nil, fun k3 d3 acc3 hd3 ok3 => ?_, fun q3 acc3 hq3 hl3 ok3 => ?_⟩
          · obtain ⟨b, hbm, rfl⟩ := map_at2 hd3
            have hb := List.mem_range.mp hbm
            walk_at "eds"
            rw [show (PyData.tuple [.str "box", .int (b : Int)]) = It.e ⟨.box, b⟩ from rfl, eqv_it]
            refine if_b (fun hc => ?_) fun _ => ok3
            walk_at "eds"
            exact ok3.snoc (d := .put x it b) ⟨hx _ hxm, hit, hk, hb, by simpa using hc⟩ rfl
          rw [List.length_map, List.length_range] at hl3
          refine rd_cat (by rw [List.length_append]; omega) fun p4 hp4 => ?_
          walk_at "eds"
          refine ed_lcL (by decide) ?_
          walk_at "eds"
          refine ⟨by rw [List.length_map, List.length_range]; omega, fun _ acc => DsOk h acc, DsOk.nil, fun k4 d4 acc4 hd4 ok4 => ?_, fun q4 acc4 hq4 hl4 ok4 => ?_⟩
          · obtain ⟨b, hbm, rfl⟩ := map_at2 hd4
            have hb := List.mem_range.mp hbm
            walk_at "eds"
            rw [show (PyData.tuple [.str "box", .int (b : Int)]) = It.e ⟨.box, b⟩ from rfl, eqv_it]
            refine if_b (fun hc => ?_) fun _ => ok4
            walk_at "eds"
            exact ok4.snoc (d := .take x it b) ⟨hx _ hxm, hit, hk, hb, by simpa using hc⟩ rfl
          rw [List.length_map, List.length_range] at hl4
          refine rd_cat (by rw [List.length_append, List.length_append]; omega) fun p5 hp5 => ?_
          walk_at "eds"
          exact ⟨_, _, _, _, _, _, rfl, ((ok.app ok2).app ok3).app ok4, by simp only [List.length_append]; omega⟩
        · walk_at "eds"
          exact ⟨_, _, _, _, _, _, rfl, ok.app ok2, by simp only [List.length_append]; omega⟩
      · subst eΓ
        rw [List.length_map, items_len] at len
        refine sd_forL (fun j Γ' => KnJ h (.o pa (hs.map fun n : Nat => .int (n : Int))) pi pb ps x (1000 * i + 200 + 20 * j) Γ') (ed_var rfl rfl) ⟨p, acc, _, _, _, _, rfl, ok, by omega⟩ (fun j Γ' ⟨_, _, _, _, _, _, e, _⟩ => ⟨4, by rw [e]; rfl⟩) (fun j d Γ' hd ⟨p, acc, x2, x3, x4, x5, eΓ, ok, len⟩ => ?_) (fun Γ' ⟨p, acc, x2, x3, x4, x5, eΓ, ok, len⟩ => ⟨p, acc, _, x2, x3, x4, x5, eΓ, ok, ?_⟩)
        · subst eΓ
          obtain ⟨b, hbm, rfl⟩ := map_at2 hd
          have hb := List.mem_range.mp hbm
          have hj : j < 3 := by
            have := (List.getElem?_eq_some_iff.mp hd).1
            rw [List.length_map, List.length_range] at this
            omega
          walk_at "eds"
          refine rd_cat (by show acc.length + 1 ≤ 100000; omega) fun p3 hp3 => ?_
          walk_at "eds"
          refine ed_lcL (by decide) ?_
          walk_at "eds"
          refine ⟨by rw [List.length_map, List.length_range]; omega, fun _ acc => DsOk h acc, DsOk.nil, fun k3 d3 acc3 hd3 ok3 => ?_, fun q3 acc3 hq3 hl3 ok3 => ?_⟩
          · obtain ⟨sl, hsm, rfl⟩ := map_at2 hd3
            walk_at "eds"
            exact ok3.snoc (d := .sl x b sl) ⟨hx _ hxm, hb, List.mem_range.mp hsm⟩ rfl
          rw [List.length_map, List.length_range] at hl3
          refine rd_cat (by rw [List.length_append]; show acc.length + 1 + acc3.length ≤ 100000; omega) fun p4 hp4 => ?_
          walk_at "eds"
          exact ⟨_, _, _, _, _, _, rfl, (ok.app (DsOk.one (d := .brk x b) ⟨hx _ hxm, hb⟩)).app ok3, by rw [List.length_append, List.length_append]; show acc.length + 1 + acc3.length ≤ _; omega⟩
        · rw [List.length_map, List.length_range] at len
          omega
    · subst eΓ
      walk_at "eds"
      refine cd_sortD (alk_dd fun d m => ?_) fun q es hq pe => ?_
      · obtain ⟨ds, rfl, _⟩ := ok
        obtain ⟨x, _, rfl⟩ := List.mem_map.mp m
        exact ⟨x, rfl⟩
      · obtain ⟨ds, rfl, okd⟩ := ok.perm pe
        have l2 := pe.length_eq
        rw [List.length_map] at l2 len
        exact ⟨k q ds (by omega) okd, fun _ _ z => by cases z; exact hq.o⟩
end
end Q47
set_option maxHeartbeats 4000000
/-! ### sight -/
namespace Q47
open PySem L2
open PySem.W (Frag)
open PyProof.Rows (envOfC)
local macro_rules | `(tactic| walk_at "shp") => `(tactic| first
  | with_reducible exact (shp_int _).ok
  | with_reducible exact (shp_pl _).ok
  | with_reducible exact (shp_bool _).ok
  | with_reducible exact (shp_it _).ok
  | with_reducible exact (shp_str (by decide +kernel)).ok
  | with_reducible exact (shp_2 (shp_str (by decide +kernel)) (shp_int _)).ok
  | with_reducible exact (shp_st _).ok
  | with_reducible exact (shp_str (kd_ok _)).ok
  | with_reducible exact (shp_str (pl_ok _)).ok
  | with_reducible exact (shp_pls _).ok
  | with_reducible exact (shp_hs _).ok
  | with_reducible exact shp_nil.ok
  | with_reducible exact (shp_dd _).ok
  | with_reducible exact (shp_sg _).ok
  | with_reducible exact (shp_rw _).ok
  | assumption)
local macro_rules | `(tactic| walk_at "ed") => `(tactic| first
  | ((with_reducible refine' ed_var ?hv ?_); (case hv => exact rfl))
  | with_reducible refine ed_int ?_
  | with_reducible refine ed_str ?_
  | with_reducible refine ed_bl ?_
  | with_reducible refine ed_non ?_
  | with_reducible refine edd_cons ?_
  | with_reducible refine edd_nil ?_
  | with_reducible refine eda_cons ?_
  | with_reducible refine eda_nil ?_
  | with_reducible refine ⟨_, rfl, ?_⟩
  | with_reducible refine ⟨_, _, rfl, ?_⟩
  | with_reducible refine ⟨_, _, _, rfl, ?_⟩
  | with_reducible refine ed_tupD ?_
  | with_reducible refine ed_lstD ?_
  | with_reducible refine ed_op ?_
  | with_reducible refine ed_lstRg ?_
  | with_reducible refine ed_cb ?_
  | with_reducible refine ed_call ?_
  | with_reducible refine ed_and ?_
  | with_reducible refine ed_or ?_
  | with_reducible refine ed_not ?_
  | with_reducible refine ed_if ?_
  | with_reducible refine td_test ?_
  | with_reducible refine td_B ?_
  | with_reducible refine td_and ?_
  | with_reducible refine td_or ?_
  | with_reducible refine td_not ?_
  | with_reducible refine td_yes ?_
  | with_reducible refine rd_I0 ?_
  | with_reducible refine rd_B0 ?_
  | ((with_reducible refine rd_eq ?hx ?hy ?_); (case hx => walk_at "shp"); (case hy => walk_at "shp"))
  | ((with_reducible refine rd_ne ?hx ?hy ?_); (case hx => walk_at "shp"); (case hy => walk_at "shp"))
  | ((with_reducible refine' rd_ixTi ?h0 ?hi ?_); (case h0 => decide); (case hi => exact rfl))
  | ((with_reducible refine len_ok ?hl ?_); (case hl => exact rfl))
  | ((with_reducible refine ed_dsel3 ?a12 ?a13 ?a23 ?_); (case a12 => decide +kernel); (case a13 => decide +kernel); (case a23 => decide +kernel))
  | with_reducible refine fun _ (_ : New _ _ _) => ?_
  | with_reducible refine cd_lenK (.inr ⟨_, rfl, ?_⟩)
  | with_reducible refine cd_lenK (.inl ⟨_, _, rfl, ?_⟩)
  | with_reducible refine cd_tupleK ?_
  | ((with_reducible refine if_t ?hc ?_); (case hc => first | rfl | decide +kernel))
  | ((with_reducible refine if_f ?hc ?_); (case hc => first | rfl | decide +kernel))
  | with_reducible refine sd_par ?_
  | with_reducible refine sd_par3 ?_
  | with_reducible refine sd_next ?_
  | with_reducible refine sd_ret ?_
  | with_reducible refine sd_seq ?_
  | with_reducible refine sd_asg ?_
  | with_reducible refine gd_name ?_
  | with_reducible refine sd_if ?_)
local macro_rules | `(tactic| walk_at "out") => `(tactic| exact ⟨by assumption, fun _ _ z => by cases z⟩)
local macro_rules | `(tactic| walk_at "eds") => `(tactic| repeat walk_at "ed")

theorem SD.mono {K : Frag} {W : Wd} {t : TS} {Γ : Gm} {N N' : Gm → Prop} {R : A → Prop} (h : SD K W t Γ N R) (k : ∀ Γ', N Γ' → N' Γ') : SD K W t Γ N' R := fun σ H D e s hn hr => h σ H D e s (fun σ' H' Γ' r s' e' q => hn σ' H' Γ' r s' e' (k Γ' q)) hr
section
variable {P : Program} {w : World} {K : Frag} {mg : Str → Option Value} {base : Heap}
theorem ins_get {l : List Pl} {p : Pl} {n m k : Nat} (h : (idx l p n)[m]? = some k) : k < n ∧ l[k]? = some p := idx_mem (List.mem_of_getElem? h)
theorem idx_rise {l : List Pl} {p : Pl} (n : Nat) : (idx l p n).Pairwise (· < ·) := by
  unfold idx
  exact List.Pairwise.filter _ List.pairwise_lt_range
theorem rise_at {l : List Nat} (h : l.Pairwise (· < ·)) {m i j : Nat} (hi : l[m]? = some i) (hj : l[m + 1]? = some j) : i < j := by
  obtain ⟨h1, rfl⟩ := List.getElem?_eq_some_iff.mp hi
  obtain ⟨h2, rfl⟩ := List.getElem?_eq_some_iff.mp hj
  exact List.pairwise_iff_getElem.mp h m (m + 1) h1 h2 (Nat.lt_succ_self m)
theorem idx_len (l : List Pl) (p : Pl) (n : Nat) : (idx l p n).length ≤ n := by
  unfold idx
  exact Nat.le_trans (List.length_filter_le _ _) (by rw [List.length_range]; exact Nat.le_refl _)
theorem ins_ok {h : Hs} {st : Stt} {b : Nat} (hh : HsOk h) (hs : StOk h st) (hb : b < h.boxes.length) : SgOk h (.inn b (insOf st b)) := by
  have b2 := hh.b2
  have t4 := hh.t4
  have lB := idx_len st.boxes (.box b) st.boxes.length
  have lT := idx_len st.things (.box b) st.things.length
  have e1 := hs.lb
  have e2 := hs.lt
  refine ⟨hb, fun i m => ?_, fun m i j hi hj => ?_, ?_⟩
  · unfold insOf insB insT at m
    rcases List.mem_append.mp m with m | m <;> obtain ⟨k, hk, rfl⟩ := List.mem_map.mp m
    · exact ⟨by show k < h.boxes.length; rw [← hs.lb]; exact (idx_mem hk).1, fun z => by cases z⟩
    · exact ⟨by show k < h.things.length; rw [← hs.lt]; exact (idx_mem hk).1, fun z => by cases z⟩
  · unfold insOf at hi hj
    have lb : (insB st b st.boxes.length).length = (idx st.boxes (.box b) st.boxes.length).length := List.length_map _
    by_cases c : m + 1 < (insB st b st.boxes.length).length
    · rw [List.getElem?_append_left (by omega)] at hi
      rw [List.getElem?_append_left c] at hj
      unfold insB at hi hj
      rw [List.getElem?_map] at hi hj
      cases q1 : (idx st.boxes (.box b) st.boxes.length)[m]? with
      | none => rw [q1] at hi; cases hi
      | some x =>
        cases q2 : (idx st.boxes (.box b) st.boxes.length)[m + 1]? with
        | none => rw [q2] at hj; cases hj
        | some y =>
          rw [q1] at hi
          rw [q2] at hj
          cases hi
          cases hj
          exact .inr ⟨rfl, rise_at (idx_rise _) q1 q2⟩
    · rw [List.getElem?_append_right (by omega)] at hj
      unfold insT at hj
      rw [List.getElem?_map] at hj
      cases q2 : (idx st.things (.box b) st.things.length)[m + 1 - (insB st b st.boxes.length).length]? with
      | none => rw [q2] at hj; cases hj
      | some y =>
        rw [q2] at hj
        cases hj
        by_cases c2 : m < (insB st b st.boxes.length).length
        · rw [List.getElem?_append_left c2] at hi
          unfold insB at hi
          rw [List.getElem?_map] at hi
          cases q1 : (idx st.boxes (.box b) st.boxes.length)[m]? with
          | none => rw [q1] at hi; cases hi
          | some x =>
            rw [q1] at hi
            cases hi
            exact .inl ⟨rfl, rfl⟩
        · rw [List.getElem?_append_right (by omega)] at hi
          unfold insT at hi
          rw [List.getElem?_map] at hi
          cases q1 : (idx st.things (.box b) st.things.length)[m - (insB st b st.boxes.length).length]? with
          | none => rw [q1] at hi; cases hi
          | some x =>
            rw [q1] at hi
            cases hi
            have e : m + 1 - (insB st b st.boxes.length).length = m - (insB st b st.boxes.length).length + 1 := by omega
            rw [e] at q2
            exact .inr ⟨rfl, rise_at (idx_rise _) q1 q2⟩
  · unfold insOf insB insT
    rw [List.length_append, List.length_map, List.length_map]
    omega
theorem pl_in {n m : Nat} {p : Pl} (h : PlOk n m p) (q : ¬ p.w = "gone") : PlIn n m p := by
  cases p with
  | gone => exact absurd rfl q
  | hand _ => exact h
  | box _ => exact h
abbrev s__law_sight : Stmt := topS 77
abbrev N__law_sight : List Str := ["_law_h", "_law_drawn_here", "_law_state", "_law_items_here", "_law_kind", "_law_box", "_law_item", "_law_found", "_law_place_here"]
theorem sc__law_sight : FnScope N__law_sight ["_law_h", "_law_drawn_here", "_law_state"] (defScope s__law_sight) := ⟨rfl, rfl, rfl, by decide +kernel, rfl, by decide +kernel, by decide +kernel⟩
def preSight : Wd → List A → (A → Prop) → Prop := fun W as κ => ∃ (hA hL : Addr) (h : Hs) (st : Stt), as = [.v (.ref hA), .d h.e, .d st.e] ∧ SrcW W hA hL ∧ HsOk h ∧ StOk h st ∧ ∀ r : Rw, RwOk h r → κ (.d r.e)
theorem ok_sight (T : Tx K mg) : Ok P w K mg base 3 ("_law_sight", none) ["_law_h", "_law_drawn_here", "_law_state"] (spD K preSight) := by
  have f__law_items : Ok P w K mg base 1 ("_law_items", none) ["_law_house_here"] (spD K preIt) := ok_items T
  have f__law_next : Ok P w K mg base 1 ("_law_next", none) ["_law_h", "_law_limit"] (spD K preNext) := ok_next T
  have f__law_place : Ok P w K mg base 1 ("_law_place", none) ["_law_state", "_law_item"] (spD K preP) := ok_place T
  have f__law_inside : Ok P w K mg base 1 ("_law_inside", none) ["_law_state", "_law_box"] (spD K preI) := ok_inside T
  have f__law_true : Ok P w K mg base 2 ("_law_true", none) ["_law_state", "_law_sight_here"] (spD K preTrue) := ok_true T
  refine okD T.d__law_sight sc__law_sight (fun _ _ _ _ _ _ us hl => match us, hl with | [_, _, _], _ => rfl) (fun _ _ _ ⟨_, _, _, _, e, _⟩ => by rw [e]; rfl) (fun _ _ _ H ⟨hA, hL, h, st, e, sw, r⟩ => ⟨hA, hL, h, st, e, sw.at H, r⟩) fun f cdv Ar outer s H E hr W as κ ⟨hA, hL, h, st, e, sw, hh, hs, k⟩ => ?_
  subst e
  refine ⟨_, (pss_cons (ps_par3 (i := 3) (j := 4) (l := 5) (by rfl) sc__law_sight.nd rfl rfl rfl (by decide) (by decide) (by decide) rfl rfl rfl (pa_cons (pe_cf f__law_items (hr.mono (by decide)) T.g__law_items (pa_cons (pv 1) pa_nil)) (pa_cons (pe_cf f__law_next (hr.mono (by decide)) T.g__law_next (pa_cons (pv 0) (pa_cons pe_int pa_nil))) (pa_cons (pe_cf f__law_next (hr.mono (by decide)) T.g__law_next (pa_cons (pv 0) (pa_cons (pe_callB (call_lenK K) (by rfl) T.b_len (by decide +kernel) (pa_cons (pe_ix (ix_tupK K) (pv 1) pe_int (fun _ _ => rfl)) pa_nil)) pa_nil))) pa_nil))) (by rfl))
      (pss_cons (ps_set (i := 6) sc__law_sight.nd rfl (Or.inl rfl) (pe_ix (ix_listK K) (pv 3) (pe_cf f__law_next (hr.mono (by decide)) T.g__law_next (pa_cons (pv 0) (pa_cons (pe_callB (call_lenK K) (by rfl) T.b_len (by decide +kernel) (pa_cons (pv 3) pa_nil)) pa_nil))) (fun _ _ => rfl)))
      (pss_cons (ps_if (pt_cmpR (op_eqDK K hr.units) (pv 4) pe_int (nomark _)) (pss_one (ps_set (i := 7) sc__law_sight.nd rfl (Or.inl rfl) (pe_tup (pa_cons pe_str (pa_cons (pv 5) pa_nil))))) (pss_one (ps_if (pt_cmpR (op_eqDK K hr.units) (pv 4) pe_int (nomark _)) (pss_one (ps_set (i := 7) sc__law_sight.nd rfl (Or.inl rfl) (pe_tup (pa_cons pe_str (pa_cons (pv 5) (pa_cons (pe_ifExp (pt_cmpR op_gt (pe_cf f__law_next (hr.mono (by decide)) T.g__law_next (pa_cons (pv 0) (pa_cons pe_int pa_nil))) pe_int (nomark _)) (pe_cf f__law_inside (hr.mono (by decide)) T.g__law_inside (pa_cons (pv 2) (pa_cons (pv 5) pa_nil))) (pe_tup pa_nil)) pa_nil)))))) (pss_one (ps_if (PW.pt (pw_and (pt_cmpR (op_eqDK K hr.units) (pv 4) pe_int (nomark _)) (pw_and1 (pt_cmpR (op_neDK K hr.units) (pe_ix (ix_tupK K) (pv 1) pe_int (fun _ _ => rfl)) (pe_tup pa_nil) (nomark _))))) (pss_one (ps_set (i := 7) sc__law_sight.nd rfl (Or.inl rfl) (pe_tup (pa_cons pe_str (pa_cons (pe_cf f__law_next (hr.mono (by decide)) T.g__law_next (pa_cons (pv 0) (pa_cons (pe_callB (call_lenK K) (by rfl) T.b_len (by decide +kernel) (pa_cons (pe_ix (ix_tupK K) (pv 1) pe_int (fun _ _ => rfl)) pa_nil)) pa_nil))) pa_nil))))) (pss_cons (ps_set (i := 8) sc__law_sight.nd rfl (Or.inl rfl) (pe_cf f__law_place (hr.mono (by decide)) T.g__law_place (pa_cons (pv 2) (pa_cons (pv 6) pa_nil))))
      (pss_one (ps_set (i := 7) sc__law_sight.nd rfl (Or.inl rfl) (pe_tup (pa_cons pe_str (pa_cons (pv 6) (pa_cons (pe_ifExp (PW.pt (pw_and (pt_cmpR (op_neDK K hr.units) (pe_ix (ix_tupK K) (pv 8) pe_int (fun _ _ => rfl)) pe_str (nomark _)) (pw_and1 (pt_cmpR op_gt (pe_cf f__law_next (hr.mono (by decide)) T.g__law_next (pa_cons (pv 0) (pa_cons pe_int pa_nil))) pe_int (nomark _))))) (pv 8) (pe_tup (pa_cons pe_str (pa_cons (pe_cf f__law_next (hr.mono (by decide)) T.g__law_next (pa_cons (pv 0) (pa_cons (pe_ix (ix_tupK K) (pv 1) pe_int (fun _ _ => rfl)) pa_nil))) pa_nil)))) pa_nil))))))))))))
      (pss_cons (ps_if (PW.pt (pw_or (pt_val (pe_cf f__law_true (hr.mono (by decide)) T.g__law_true (pa_cons (pv 2) (pa_cons (pv 7) pa_nil)))) (pw_or1 (pt_cmpR (op_eqDK K hr.units) (pe_cf f__law_next (hr.mono (by decide)) T.g__law_next (pa_cons (pv 0) (pa_cons pe_int pa_nil))) pe_int (nomark _))))) (pss_one (ps_ret (pv 7))) pss_nil)
      (pss_one (ps_ret (pe_tup (pa_cons pe_str (pa_cons (pv 7) pa_nil))))))))), ?_⟩
  have b1 := hh.b1
  have b2 := hh.b2
  have t4 := hh.t4
  have s3 := hh.s3
  walk_at "eds"
  refine ⟨h, rfl, by omega, t4, s3, fun pi _ => ?_⟩
  walk_at "eds"
  refine ⟨hA, hL, 5, rfl, sw, by decide, by decide, fun kind _ _ => ?_⟩
  walk_at "eds"
  refine ⟨hA, hL, _, rfl, sw, by rw [List.length_map]; omega, by rw [List.length_map]; omega, fun box hbox _ => ?_⟩
  rw [List.length_map] at hbox
  walk_at "eds"
  refine ⟨hA, hL, _, rfl, sw, by rw [List.length_map, items_len]; omega, by rw [List.length_map, items_len]; omega, fun j hj _ => ?_⟩
  rw [List.length_map] at hj
  have him := List.getElem_mem hj
  refine rd_ixL (map_at (List.getElem?_eq_getElem hj)) ?_
  generalize (itemsOf h)[j] = item at him
  have hit := items_ok him
  refine gd_name ?_
  refine sd_seq (SD.mono (N := fun Γ' => ∃ g x, Γ' = [some (.v (.ref hA)), some (.d h.e), some (.d st.e), some (.o pi ((itemsOf h).map It.e)), some (.d (.int (kind : Int))), some (.d (.int (box : Int))), some (.d item.e), some (.d (Sg.e g)), x] ∧ SgOk h g) ?_ ?_)
  · walk_at "eds"
    refine if_b (fun _ => ?_) fun _ => ?_
    · walk_at "eds"
      exact ⟨.bare box, none, rfl, hbox⟩
    walk_at "eds"
    refine if_b (fun _ => ?_) fun _ => ?_
    · walk_at "eds"
      refine ⟨hA, hL, 5, rfl, sw, by decide, by decide, fun _ _ _ => ?_⟩
      walk_at "eds"
      refine if_b (fun _ => ?_) fun _ => ?_
      · walk_at "eds"
        refine ⟨st, box, rfl, by have := hs.lb; omega, by have := hs.lt; omega, fun _ => ?_⟩
        walk_at "eds"
        exact ⟨.inn box (insOf st box), none, rfl, ins_ok hh hs hbox⟩
      · walk_at "eds"
        exact ⟨.inn box [], none, rfl, hbox, (fun i m => by cases m), (fun m i j hi => by simp at hi), by decide⟩
    walk_at "eds"
    refine if_b (fun _ => ?_) fun _ => ?_
    · walk_at "eds"
      refine if_b (fun hc => ?_) fun _ => ?_
      · walk_at "eds"
        have hse : 0 < h.seals.length := by
          cases e : h.seals with
          | nil =>
            rw [e] at hc
            simp [PyData.eqv, PyData.eqvAll] at hc
          | cons _ _ => simp
        refine ⟨hA, hL, _, rfl, sw, by rw [List.length_map]; omega, by rw [List.length_map]; omega, fun x hx _ => ?_⟩
        rw [List.length_map] at hx
        walk_at "eds"
        exact ⟨.gone x, _, rfl, hx⟩
      · walk_at "eds"
        obtain ⟨p, hp, hpo⟩ := st_at hs hit
        refine ⟨st, item, p, rfl, hp, fun _ => ?_⟩
        walk_at "eds"
        rw [eqv_str]
        refine if_b (fun hc => ?_) fun _ => ?_
        · walk_at "eds"
          refine ⟨hA, hL, 5, rfl, sw, by decide, by decide, fun _ _ _ => ?_⟩
          walk_at "eds"
          refine if_b (fun _ => ?_) fun _ => ?_
          · walk_at "eds"
            exact ⟨.at_ item p, _, rfl, hit, pl_in hpo (by simpa using hc)⟩
          · walk_at "eds"
            refine ⟨hA, hL, h.hands, rfl, sw, by have := hh.h1; omega, by have := hh.h3; omega, fun x hx _ => ?_⟩
            walk_at "eds"
            exact ⟨.at_ item (.hand x), _, rfl, hit, hx⟩
        · walk_at "eds"
          refine ⟨hA, hL, h.hands, rfl, sw, by have := hh.h1; omega, by have := hh.h3; omega, fun x hx _ => ?_⟩
          walk_at "eds"
          exact ⟨.at_ item (.hand x), _, rfl, hit, hx⟩
    · walk_at "eds"
      obtain ⟨p, hp, hpo⟩ := st_at hs hit
      refine ⟨st, item, p, rfl, hp, fun _ => ?_⟩
      walk_at "eds"
      rw [eqv_str]
      refine if_b (fun hc => ?_) fun _ => ?_
      · walk_at "eds"
        refine ⟨hA, hL, 5, rfl, sw, by decide, by decide, fun _ _ _ => ?_⟩
        walk_at "eds"
        refine if_b (fun _ => ?_) fun _ => ?_
        · walk_at "eds"
          exact ⟨.at_ item p, _, rfl, hit, pl_in hpo (by simpa using hc)⟩
        · walk_at "eds"
          refine ⟨hA, hL, h.hands, rfl, sw, by have := hh.h1; omega, by have := hh.h3; omega, fun x hx _ => ?_⟩
          walk_at "eds"
          exact ⟨.at_ item (.hand x), _, rfl, hit, hx⟩
      · walk_at "eds"
        refine ⟨hA, hL, h.hands, rfl, sw, by have := hh.h1; omega, by have := hh.h3; omega, fun x hx _ => ?_⟩
        walk_at "eds"
        exact ⟨.at_ item (.hand x), _, rfl, hit, hx⟩
  · rintro Γ' ⟨g, x, rfl, hg⟩
    walk_at "eds"
    refine ⟨h, st, g, rfl, hh, hs, hg, fun b _ => ?_⟩
    walk_at "eds"
    have o1 : Out W κ (.d g.e) := ⟨k (.sight g) hg, fun _ _ z => by cases z⟩
    refine if_b (fun _ => ?_) fun _ => ?_
    · walk_at "eds"
      exact o1
    · walk_at "eds"
      refine ⟨hA, hL, 6, rfl, sw, by decide, by decide, fun _ _ _ => ?_⟩
      walk_at "eds"
      refine if_b (fun _ => ?_) fun _ => ?_
      · walk_at "eds"
        exact o1
      · walk_at "eds"
        exact ⟨k (.nots g) hg, fun _ _ z => by cases z⟩
end
end Q47
set_option maxHeartbeats 4000000
/-! ### drawn -/
namespace Q47
open PySem L2
open PySem.W (Frag)
open PyProof.Rows (envOfC)
local macro_rules | `(tactic| walk_at "shp") => `(tactic| first
  | with_reducible exact (shp_int _).ok
  | with_reducible exact (shp_pl _).ok
  | with_reducible exact (shp_bool _).ok
  | with_reducible exact (shp_it _).ok
  | with_reducible exact (shp_str (by decide +kernel)).ok
  | with_reducible exact (shp_2 (shp_str (by decide +kernel)) (shp_int _)).ok
  | with_reducible exact (shp_st _).ok
  | with_reducible exact (shp_str (kd_ok _)).ok
  | with_reducible exact (shp_str (pl_ok _)).ok
  | with_reducible exact (shp_pls _).ok
  | with_reducible exact (shp_hs _).ok
  | with_reducible exact shp_nil.ok
  | with_reducible exact (shp_dd _).ok
  | with_reducible exact (shp_sg _).ok
  | with_reducible exact (shp_rw _).ok
  | assumption)
local macro_rules | `(tactic| walk_at "ed") => `(tactic| first
  | ((with_reducible refine' ed_var ?hv ?_); (case hv => exact rfl))
  | with_reducible refine ed_int ?_
  | with_reducible refine ed_str ?_
  | with_reducible refine ed_bl ?_
  | with_reducible refine ed_non ?_
  | with_reducible refine edd_cons ?_
  | with_reducible refine edd_nil ?_
  | with_reducible refine eda_cons ?_
  | with_reducible refine eda_nil ?_
  | with_reducible refine ⟨_, rfl, ?_⟩
  | with_reducible refine ⟨_, _, rfl, ?_⟩
  | with_reducible refine ⟨_, _, _, rfl, ?_⟩
  | with_reducible refine ed_tupD ?_
  | with_reducible refine ed_lstD ?_
  | with_reducible refine ed_op ?_
  | with_reducible refine ed_lstRg ?_
  | with_reducible refine ed_cb ?_
  | with_reducible refine ed_call ?_
  | with_reducible refine ed_and ?_
  | with_reducible refine ed_or ?_
  | with_reducible refine ed_not ?_
  | with_reducible refine ed_if ?_
  | with_reducible refine td_test ?_
  | with_reducible refine td_B ?_
  | with_reducible refine td_and ?_
  | with_reducible refine td_or ?_
  | with_reducible refine td_not ?_
  | with_reducible refine td_yes ?_
  | with_reducible refine rd_I0 ?_
  | with_reducible refine rd_B0 ?_
  | ((with_reducible refine rd_eq ?hx ?hy ?_); (case hx => walk_at "shp"); (case hy => walk_at "shp"))
  | ((with_reducible refine rd_ne ?hx ?hy ?_); (case hx => walk_at "shp"); (case hy => walk_at "shp"))
  | ((with_reducible refine' rd_ixTi ?h0 ?hi ?_); (case h0 => decide); (case hi => exact rfl))
  | ((with_reducible refine len_ok ?hl ?_); (case hl => exact rfl))
  | ((with_reducible refine ed_dsel3 ?a12 ?a13 ?a23 ?_); (case a12 => decide +kernel); (case a13 => decide +kernel); (case a23 => decide +kernel))
  | with_reducible refine fun _ (_ : New _ _ _) => ?_
  | with_reducible refine cd_lenK (.inr ⟨_, rfl, ?_⟩)
  | with_reducible refine cd_lenK (.inl ⟨_, _, rfl, ?_⟩)
  | with_reducible refine cd_tupleK ?_
  | ((with_reducible refine if_t ?hc ?_); (case hc => first | rfl | decide +kernel))
  | ((with_reducible refine if_f ?hc ?_); (case hc => first | rfl | decide +kernel))
  | with_reducible refine sd_par ?_
  | with_reducible refine sd_par3 ?_
  | with_reducible refine sd_next ?_
  | with_reducible refine sd_ret ?_
  | with_reducible refine sd_seq ?_
  | with_reducible refine sd_asg ?_
  | with_reducible refine gd_name ?_
  | with_reducible refine sd_if ?_)
local macro_rules | `(tactic| walk_at "out") => `(tactic| exact ⟨by assumption, fun _ _ z => by cases z⟩)
local macro_rules | `(tactic| walk_at "eds") => `(tactic| repeat walk_at "ed")

theorem room65 {k : Nat} {A : Around} (r : Room k A) : A.units + 65 < cLine := by have := r.un; omega
theorem op_notInDK (K : Frag) {X : Cx} (hu : X.A.units + 65 < cLine) (hK : X.K = K := by rfl) : OpR X (compareOp .NotIn) (rNotInD K) := hK ▸ op_notInD hu
/-- x in a tuple of data -/
def rInDT (K : Frag) : R2 := fun x y H Q => ∃ d ds, Dp K H x d ∧ Dp K H y (.tuple ds) ∧ SeqAt.shaped d = true ∧ SeqAt.shaped (.tuple ds) = true ∧ Q (.bl (ds.any fun z => PyData.eqv z d)) H
theorem op_inDT {X : Cx} (hu : X.A.units + 65 < cLine) : OpR X (compareOp .In) (rInDT X.K) := by
  intro pins s σ H x y v u Q I rx ry h
  obtain ⟨d, ds, hd, he, sd, se, q⟩ := h
  obtain ⟨as, r1⟩ := Dp.reads I d x v hd rx
  obtain ⟨bs, r2⟩ := Dp.reads I (.tuple ds) y u he ry
  exact SeqAt.in_tuple_reads r2 r1 (SeqAt.canLay_of_shaped se) (SeqAt.canLay_of_shaped sd) (by
    have q := PyProof.Rows.room_in_shaped (xs := ds) sd hu
    exact q) ⟨.bl _, H, I, rfl, q⟩
theorem op_inDTK (K : Frag) {X : Cx} (hu : X.A.units + 65 < cLine) (hK : X.K = K := by rfl) : OpR X (compareOp .In) (rInDT K) := hK ▸ op_inDT hu
section
variable {K : Frag} {W : Wd} {Γ : Gm} {κ : A → Prop} {N : Gm → Prop} {R : A → Prop} {t : TS} {g : TG}
theorem rd_notInD {d : PyData} {p : Addr} {ds : List PyData} (hx : SeqAt.shaped d = true) (hy : SeqAt.shaped (.list ds) = true) (k : κ (.d (.bool (!ds.any fun z => PyData.eqv z d)))) : RD K W Γ (rNotInD K) (.d d) (.o p ds) κ := fun σ v u H Q e hv hu s q => by
  obtain ⟨rfl, _, us, h3, h4⟩ := hu
  exact ⟨d, ds, hv.dp, .lst (SqL.of h3) h4.dp, hx, hy, q _ H (.d _) Ro.refl s (Rt.bl _) k⟩
theorem rd_inDT {d : PyData} {ds : List PyData} (hx : SeqAt.shaped d = true) (hy : SeqAt.shaped (.tuple ds) = true) (k : κ (.d (.bool (ds.any fun z => PyData.eqv z d)))) : RD K W Γ (rInDT K) (.d d) (.d (.tuple ds)) κ := fun σ v u H Q e hv hu s q =>
  ⟨d, ds, hv.dp, hu.dp, hx, hy, q _ H (.d _) Ro.refl s (Rt.bl _) k⟩
theorem sd_forRx {ta : TA} (h : EDA K W ta Γ fun as => ∃ n : Nat, as = [.d (.int (n : Int))] ∧ n ≤ 100000 ∧ ∃ I : Nat → Gm → Prop, I 0 Γ ∧
    (∀ (i : Nat) Γ', i < n → I i Γ' → GD K W g (.d (.int (i : Int))) Γ' fun Γ2 => SD K W t Γ2 (I (i + 1)) R) ∧ ∀ Γ', I n Γ' → N Γ') : SD K W (tFor (iRng1 ta) g t) Γ N R := fun σ H D e s hnx hr => by
  refine h σ H _ e s fun vs H1 as r1 s1 ha k => ?_
  obtain ⟨n, rfl, hn, I, hI, hb, hN⟩ := k
  cases ha with
  | cons h1 h2 =>
    cases h2
    cases h1
    refine ⟨(n : Int), rfl, by omega, by omega, ?_⟩
    have en : ((n : Int)).toNat = n := Int.toNat_natCast n
    rw [en]
    refine for_range (lo := 0) (n := n) (fun i σ' H' => ∃ Γ', Rs W H H' ∧ W.S H' ∧ En K W H' σ' Γ' ∧ I i Γ') ⟨Γ, r1.rs s, s1, e.keep s r1, hI⟩ ?_ ?_
    · rintro i σ' H' hi ⟨Γ', rs, s', e', I'⟩
      rw [Int.zero_add]
      refine hb i Γ' hi I' _ σ' H' _ e' s' (Rt.int _) fun σ2 Γ2 e2 k2 => ?_
      exact k2 σ2 H' _ e2 s' (fun σ3 H3 Γ3 r3 s3 e3 k3 => ⟨Γ3, rs.trans r3, s3, e3, k3⟩) fun v H3 a r3 s3 ha k3 => hr v H3 a (rs.trans r3) s3 ha k3
    · rintro σ' H' ⟨Γ', rs, s', e', I'⟩
      exact hnx σ' H' Γ' rs s' e' (hN Γ' I')
/-- a, b, c, d = e, [], [], [] -/
theorem sd_four {te : TE} {i j l m : Nat} (h : ED K W te Γ fun a => ∃ d, a = .d d ∧ ∀ p1 p2 p3, New W Γ p1 → New W Γ p2 → New W Γ p3 → p1 ≠ p2 → p1 ≠ p3 → p2 ≠ p3 → N ((((Γ.set i (some (.d d))).set j (some (.o p1 []))).set l (some (.o p2 []))).set m (some (.o p3 [])))) :
    SD K W (tAsg (tTup (tCons te (tCons (tLst tNil) (tCons (tLst tNil) (tCons (tLst tNil) tNil))))) (gTup K 4 (gCons (gName i) (gCons (gName j) (gCons (gName l) (gCons (gName m) gNil)))))) Γ N R := fun σ H D e s hn _ => by
  refine h σ H _ e s fun v H1 a r1 s1 ha k => ?_
  obtain ⟨d, rfl, k⟩ := k
  refine ⟨by decide, fun p1 n1 => ⟨by decide, fun p2 n2 => ⟨by decide, fun p3 n3 => ⟨by show 4 ≤ sizeLine; decide, fun p n => ?_⟩⟩⟩⟩
  have m1 := same_new (o := HO.lst []) n1
  have m2 := same_new (o := HO.lst []) n2
  have m3 := same_new (o := HO.lst []) n3
  have m4 := same_new (o := HO.tup [v, .ref p1, .ref p2, .ref p3]) n
  have t1 := Wd.same s1 m1
  have t2 := Wd.same t1 m2
  have t3 := Wd.same t2 m3
  have t4 := Wd.same t3 m4
  have r2 := r1.trans (Ro.of_same m1)
  have r3 := r2.trans (Ro.of_same m2)
  have r4 := (r3.trans (Ro.of_same m3)).trans (Ro.of_same m4)
  have n12 : p1 ≠ p2 := fun z => by
    rw [← z, upd_same] at n2
    cases n2
  have n23 : p2 ≠ p3 := fun z => by
    rw [← z, upd_same] at n3
    cases n3
  have n13 : p1 ≠ p3 := fun z => by
    rw [← z, m2 p1 _ upd_same] at n3
    cases n3
  refine ⟨p, _, rfl, SqT.of upd_same, rfl, v, _, rfl, _, _, rfl, _, _, rfl, _, _, rfl, rfl, ?_⟩
  refine hn _ _ _ (r4.rs s) t4 (((((e.keep s r4).set i (a := .d d) ?_).set j (a := .o p1 []) ?_).set l (a := .o p2 []) ?_).set m (a := .o p3 []) ?_) (k p1 p2 p3 (new_of e s r1 s1 n1) (new_of e s r2 t1 n2) (new_of e s r3 t2 n3) n12 n13 n23)
  · exact Rt.keep (Kp.of_same (((m1.trans m2).trans m3).trans m4)) ha
  · exact ⟨rfl, Wd.freshM s1 n1, [], m4 _ _ (m3 _ _ (m2 _ _ upd_same)), .nil⟩
  · exact ⟨rfl, Wd.freshM t1 n2, [], m4 _ _ (m3 _ _ upd_same), .nil⟩
  · exact ⟨rfl, Wd.freshM t2 n3, [], m4 _ _ upd_same, .nil⟩
end
section
variable {P : Program} {w : World} {K : Frag} {mg : Str → Option Value} {base : Heap}
def BxOk (hands : Nat) (bs : List Pl) : Prop := ∀ (i : Nat) p, bs[i]? = some p → PlIn hands i p
theorem BxOk.push {hands : Nat} {bs : List Pl} {p : Pl} (h : BxOk hands bs) (hp : PlIn hands bs.length p) : BxOk hands (bs ++ [p]) := fun i q hq => by
  by_cases c : i < bs.length
  · rw [List.getElem?_append_left c] at hq
    exact h i q hq
  · rw [List.getElem?_append_right (by omega)] at hq
    have e : i = bs.length := by
      have := (List.getElem?_eq_some_iff.mp hq).1
      simp at this
      omega
    subst e
    rw [Nat.sub_self] at hq
    cases hq
    exact hp
def OneB (ss : List Pl) : Prop := ∀ (i j : Nat) b, i < j → ss[i]? = some (.box b) → ss[j]? ≠ some (.box b)
theorem OneB.push {ss : List Pl} {p : Pl} (h : OneB ss) (hp : (∃ n, p = .hand n) ∨ p ∉ ss) : OneB (ss ++ [p]) := fun i j b hij hi hj => by
  by_cases c : j < ss.length
  · rw [List.getElem?_append_left c] at hj
    rw [List.getElem?_append_left (by omega)] at hi
    exact h i j b hij hi hj
  · rw [List.getElem?_append_right (by omega)] at hj
    have e : j = ss.length := by
      have := (List.getElem?_eq_some_iff.mp hj).1
      simp at this
      omega
    subst e
    rw [Nat.sub_self] at hj
    have hj' : p = .box b := Option.some.inj hj
    rw [List.getElem?_append_left (by omega)] at hi
    rcases hp with ⟨n, e⟩ | hp
    · rw [e] at hj'
      cases hj'
    · exact hp (hj' ▸ List.mem_of_getElem? hi)
theorem all_push {P : Pl → Prop} {l : List Pl} {p : Pl} (h : ∀ q ∈ l, P q) (hp : P p) : ∀ q ∈ l ++ [p], P q := fun q m => by
  rcases List.mem_append.mp m with m | m
  · exact h q m
  · rw [List.mem_singleton.mp m]
    exact hp
theorem map_push (l : List Pl) (p : Pl) : l.map Pl.e ++ [p.e] = (l ++ [p]).map Pl.e := by rw [List.map_append]; rfl
theorem any_pl (l : List Pl) (p : Pl) : ((l.map Pl.e).any fun z => PyData.eqv z p.e) = decide (p ∈ l) := by
  induction l with
  | nil => rfl
  | cons q l ih =>
    rw [List.map_cons, List.any_cons, ih, eqv_pl, Bool.eq_iff_iff]
    simp only [Bool.or_eq_true, decide_eq_true_eq, List.mem_cons]
    exact ⟨fun h => h.imp Eq.symm id, fun h => h.imp Eq.symm id⟩
theorem shp_plsL (l : List Pl) : Shp 2 (.list (l.map Pl.e)) := shp_lst fun d hd => by
  obtain ⟨p, _, rfl⟩ := List.mem_map.mp hd
  exact shp_pl p
abbrev s__law_drawn : Stmt := topS 71
abbrev N__law_drawn : List Str := ["_law_h", "_law_most", "_law_hands", "_law_boxes", "_law_things", "_law_seals", "_law_k", "_law_spot"]
theorem sc__law_drawn : FnScope N__law_drawn ["_law_h", "_law_most"] (defScope s__law_drawn) := ⟨rfl, rfl, rfl, by decide +kernel, rfl, by decide +kernel, by decide +kernel⟩
def preDrawn : Wd → List A → (A → Prop) → Prop := fun W as κ => ∃ (hA hL : Addr), as = [.v (.ref hA), .d (.int 5)] ∧ SrcW W hA hL ∧ ∀ h : Hs, HsOk h → κ (.d h.e)
theorem ok_drawn (T : Tx K mg) : Ok P w K mg base 2 ("_law_drawn", none) ["_law_h", "_law_most"] (spD K preDrawn) := by
  have f__law_next : Ok P w K mg base 1 ("_law_next", none) ["_law_h", "_law_limit"] (spD K preNext) := ok_next T
  refine okD T.d__law_drawn sc__law_drawn (fun _ _ _ _ _ _ us hl => match us, hl with | [_, _], _ => rfl) (fun _ _ _ ⟨_, _, e, _⟩ => by rw [e]; rfl) (fun _ _ _ H ⟨hA, hL, e, sw, r⟩ => ⟨hA, hL, e, sw.at H, r⟩) fun f cdv Ar outer s H E hr W as κ ⟨hA, hL, e, sw, k⟩ => ?_
  subst e
  refine ⟨_, (pss_cons (ps_asg (pe_tup (pa_cons (pe_op op_add pe_int (pe_cf f__law_next (hr.mono (by decide)) T.g__law_next (pa_cons (pv 0) (pa_cons pe_int pa_nil)))) (pa_cons (pe_lst pa_nil) (pa_cons (pe_lst pa_nil) (pa_cons (pe_lst pa_nil) pa_nil))))) (pg_tupK (n := 4) K rfl (pgs_cons (pg_name (i := 2) sc__law_drawn.nd rfl (Or.inl rfl)) (pgs_cons (pg_name (i := 3) sc__law_drawn.nd rfl (Or.inl rfl)) (pgs_cons (pg_name (i := 4) sc__law_drawn.nd rfl (Or.inl rfl)) (pgs_cons (pg_name (i := 5) sc__law_drawn.nd rfl (Or.inl rfl)) pgs_nil))))))
      (pss_cons (ps_for PassesOwn.never rfl (pi_range1 rfl T.b_range (pa_cons (pe_op op_add pe_int (pe_cf f__law_next (hr.mono (by decide)) T.g__law_next (pa_cons (pv 0) (pa_cons pe_int pa_nil)))) pa_nil)) (pg_name (i := 6) sc__law_drawn.nd rfl (Or.inl rfl)) (pss_one (ps_expr (pe_bmK K PySem.F.plainAttrs_list PySem.F.slot_list_append PySem.F.type_list_append mt_append (pv 3) (pa_cons (pe_ifExp (PW.pt (pw_and (pt_cmpR op_gt (pv 6) pe_int (nomark _)) (pw_and1 (pt_cmpR (op_eqDK K hr.units) (pe_cf f__law_next (hr.mono (by decide)) T.g__law_next (pa_cons (pv 0) (pa_cons pe_int pa_nil))) pe_int (nomark _))))) (pe_tup (pa_cons pe_str (pa_cons pe_int pa_nil))) (pe_tup (pa_cons pe_str (pa_cons (pe_cf f__law_next (hr.mono (by decide)) T.g__law_next (pa_cons (pv 0) (pa_cons (pv 2) pa_nil))) pa_nil)))) pa_nil)))))
      (pss_cons (ps_for PassesOwn.never rfl (pi_range1 rfl T.b_range (pa_cons (pe_cf f__law_next (hr.mono (by decide)) T.g__law_next (pa_cons (pv 0) (pa_cons (pe_op op_add (pe_op op_sub (pv 1) (pe_callB (call_lenK K) (by rfl) T.b_len (by decide +kernel) (pa_cons (pv 3) pa_nil))) pe_int) pa_nil))) pa_nil)) (pg_name (i := 6) sc__law_drawn.nd rfl (Or.inl rfl)) (pss_cons (ps_set (i := 7) sc__law_drawn.nd rfl (Or.inl rfl) (pe_ifExp (pt_cmpR (op_eqDK K hr.units) (pe_cf f__law_next (hr.mono (by decide)) T.g__law_next (pa_cons (pv 0) (pa_cons pe_int pa_nil))) pe_int (nomark _)) (pe_tup (pa_cons pe_str (pa_cons (pe_cf f__law_next (hr.mono (by decide)) T.g__law_next (pa_cons (pv 0) (pa_cons (pe_callB (call_lenK K) (by rfl) T.b_len (by decide +kernel) (pa_cons (pv 3) pa_nil)) pa_nil))) pa_nil))) (pe_tup (pa_cons pe_str (pa_cons (pe_cf f__law_next (hr.mono (by decide)) T.g__law_next (pa_cons (pv 0) (pa_cons (pv 2) pa_nil))) pa_nil)))))
      (pss_one (ps_if (PW.pt (pw_or (pt_cmpR (op_eqDK K hr.units) (pe_callB (call_lenK K) (by rfl) T.b_len (by decide +kernel) (pa_cons (pv 5) pa_nil)) pe_int (nomark _)) (pw_or1 (PW.pt (pw_and (pt_cmpR (op_eqDK K hr.units) (pe_cf f__law_next (hr.mono (by decide)) T.g__law_next (pa_cons (pv 0) (pa_cons pe_int pa_nil))) pe_int (nomark _)) (pw_and1 (pt_cmpR op_lt (pe_callB (call_lenK K) (by rfl) T.b_len (by decide +kernel) (pa_cons (pv 4) pa_nil)) pe_int (nomark _)))))))) (pss_one (ps_expr (pe_bmK K PySem.F.plainAttrs_list PySem.F.slot_list_append PySem.F.type_list_append mt_append (pv 4) (pa_cons (pv 7) pa_nil)))) (pss_one (ps_expr (pe_bmK K PySem.F.plainAttrs_list PySem.F.slot_list_append PySem.F.type_list_append mt_append (pv 5) (pa_cons (pe_ifExp (PW.pt (pw_or (pt_cmpR (op_eqDK K hr.units) (pe_ix (ix_tupK K) (pv 7) pe_int (fun _ _ => rfl)) pe_str (nomark _)) (pw_or1 (pt_cmpR (op_notInDK K (room65 hr)) (pv 7) (pv 5) (by rfl))))) (pv 7) (pe_tup (pa_cons pe_str (pa_cons pe_int pa_nil)))) pa_nil))))))))
      (pss_one (ps_ret (pe_tup (pa_cons (pv 2) (pa_cons (pe_callTy (call_tupleK K) (by rfl) T.b_tuple (by decide +kernel) (pa_cons (pv 3) pa_nil)) (pa_cons (pe_callTy (call_tupleK K) (by rfl) T.b_tuple (by decide +kernel) (pa_cons (pv 4) pa_nil)) (pa_cons (pe_callTy (call_tupleK K) (by rfl) T.b_tuple (by decide +kernel) (pa_cons (pv 5) pa_nil)) pa_nil)))))))))), ?_⟩
  refine sd_seq (sd_four ?_)
  walk_at "eds"
  refine ⟨hA, hL, 3, rfl, sw, by decide, by decide, fun r hr3 _ => ?_⟩
  refine rd_I0 ⟨_, rfl, fun pb pt ps nb nt ns n12 n13 n23 => ?_⟩
  have e1 : (1 : Int) + (r : Int) = ((1 + r : Nat) : Int) := by omega
  rw [e1]
  generalize hhd : 1 + r = hands
  have hh1 : 1 ≤ hands := by omega
  have hh3 : hands ≤ 3 := by omega
  refine sd_seq (sd_forRx ?_)
  walk_at "eds"
  refine ⟨hA, hL, 2, rfl, sw, by decide, by decide, fun r2 hr2 _ => ?_⟩
  refine rd_I0 ?_
  refine eda_nil ⟨1 + r2, by rw [show (1 : Int) + (r2 : Int) = ((1 + r2 : Nat) : Int) by omega], by omega, fun i Γ' => ∃ (bs : List Pl) (x6 : Option A), Γ' = [some (.v (.ref hA)), some (.d (.int 5)), some (.d (.int (hands : Int))), some (.o pb (bs.map Pl.e)), some (.o pt []), some (.o ps []), x6, none] ∧ bs.length = i ∧ BxOk hands bs, ⟨[], none, rfl, rfl, fun i p hp => by simp at hp⟩, fun i Γ' hi ⟨bs, x6, eΓ, hbl, hbo⟩ => ?_, fun Γ' ⟨bs, x6, eΓ, hbl, hbo⟩ => ?_⟩
  · subst eΓ
    refine gd_name ?_
    refine sd_app (p := pb) rfl nb.o (by rw [List.length_map]; omega) (fun j q ys hj hq => match j, hj, hq with
        | 0, _, hq => by cases hq
        | 1, _, hq => by cases hq
        | 2, _, hq => by cases hq
        | 3, hj, hq => by first | exact absurd rfl hj | (cases hq; exact nb.o.elim)
        | 4, hj, hq => by first | exact absurd rfl hj | (cases hq; exact n12.symm)
        | 5, hj, hq => by first | exact absurd rfl hj | (cases hq; exact n13.symm)
        | 6, _, hq => by cases hq
        | 7, _, hq => by cases hq
        | n + 8, _, hq => by simp at hq) ?_
    walk_at "eds"
    have fin : ∀ p : Pl, PlIn hands bs.length p → ∃ (bs' : List Pl) (x6 : Option A), List.set ([some (.v (.ref hA)), some (.d (.int 5)), some (.d (.int (hands : Int))), some (.o pb (bs.map Pl.e)), some (.o pt []), some (.o ps []), some (.d (.int (i : Int))), none]) 3 (some (.o pb (bs.map Pl.e ++ [p.e]))) = [some (.v (.ref hA)), some (.d (.int 5)), some (.d (.int (hands : Int))), some (.o pb (bs'.map Pl.e)), some (.o pt []), some (.o ps []), x6, none] ∧ bs'.length = i + 1 ∧ BxOk hands bs' := fun p hp => by
      rw [map_push]
      exact ⟨bs ++ [p], _, rfl, by rw [List.length_append, hbl]; rfl, hbo.push hp⟩
    refine if_dec (fun hi0 => ?_) fun _ => ?_
    · walk_at "eds"
      refine ⟨hA, hL, 3, rfl, sw, by decide, by decide, fun _ _ _ => ?_⟩
      walk_at "eds"
      refine if_b (fun _ => ?_) fun _ => ?_
      · walk_at "eds"
        exact fin (.box 0) (by show 0 < bs.length; omega)
      · walk_at "eds"
        refine ⟨hA, hL, hands, rfl, sw, by omega, by omega, fun x hx _ => ?_⟩
        walk_at "eds"
        exact fin (.hand x) hx
    · walk_at "eds"
      refine ⟨hA, hL, hands, rfl, sw, by omega, by omega, fun x hx _ => ?_⟩
      walk_at "eds"
      exact fin (.hand x) hx
  subst eΓ
  have hb1 : 1 ≤ bs.length := by omega
  have hb2 : bs.length ≤ 2 := by omega
  clear hbl hhd
  refine sd_seq (sd_forRx ?_)
  walk_at "eds"
  simp only [List.length_map]
  refine ⟨hA, hL, 6 - bs.length, by rw [show (5 : Int) - (bs.length : Int) + 1 = ((6 - bs.length : Nat) : Int) by omega], sw, by omega, by omega, fun r3 hr3 _ => ?_⟩
  refine eda_nil ⟨r3, rfl, by omega, fun i Γ' => ∃ (ts ss : List Pl) (x6 x7 : Option A), Γ' = [some (.v (.ref hA)), some (.d (.int 5)), some (.d (.int (hands : Int))), some (.o pb (bs.map Pl.e)), some (.o pt (ts.map Pl.e)), some (.o ps (ss.map Pl.e)), x6, x7] ∧ ts.length + ss.length = i ∧ ss.length ≤ 3 ∧ (∀ p ∈ ts, PlIn hands bs.length p) ∧ (∀ p ∈ ss, PlIn hands bs.length p) ∧ OneB ss, ⟨[], [], _, _, rfl, rfl, by decide, (fun p m => by cases m), (fun p m => by cases m), fun i j b _ hi => by simp at hi⟩, fun i Γ' hi ⟨ts, ss, x6, x7, eΓ, hl, h3, tok, sok, one⟩ => ?_, fun Γ' ⟨ts, ss, x6, x7, eΓ, hl, h3, tok, sok, one⟩ => ?_⟩
  · subst eΓ
    refine gd_name ?_
    refine sd_seq (SD.mono (N := fun Γ' => ∃ p : Pl, Γ' = [some (.v (.ref hA)), some (.d (.int 5)), some (.d (.int (hands : Int))), some (.o pb (bs.map Pl.e)), some (.o pt (ts.map Pl.e)), some (.o ps (ss.map Pl.e)), some (.d (.int (i : Int))), some (.d p.e)] ∧ PlIn hands bs.length p) ?_ ?_)
    · walk_at "eds"
      refine ⟨hA, hL, 2, rfl, sw, by decide, by decide, fun _ _ _ => ?_⟩
      walk_at "eds"
      refine if_b (fun _ => ?_) fun _ => ?_
      · walk_at "eds"
        simp only [List.length_map]
        refine ⟨hA, hL, bs.length, rfl, sw, by omega, by omega, fun x hx _ => ?_⟩
        walk_at "eds"
        exact ⟨.box x, rfl, hx⟩
      · walk_at "eds"
        refine ⟨hA, hL, hands, rfl, sw, by omega, by omega, fun x hx _ => ?_⟩
        walk_at "eds"
        exact ⟨.hand x, rfl, hx⟩
    rintro Γ' ⟨p, rfl, hp⟩
    refine sd_if (TD.mono (κ := fun b => b = false → ss.length ≠ 3) ?_ fun b hb => if_b (fun e => ?_) fun e => ?_)
    · walk_at "eds"
      simp only [List.length_map]
      rw [show PyData.int 3 = .int ((3 : Nat) : Int) from rfl, eqv_nat]
      refine if_dec (fun _ z => by cases z) fun hn => ?_
      walk_at "eds"
      refine ⟨hA, hL, 2, rfl, sw, by decide, by decide, fun _ _ _ => ?_⟩
      walk_at "eds"
      refine if_b (fun _ => ?_) fun _ => ?_
      · walk_at "eds"
        exact fun _ => hn
      · exact fun _ => hn
    · refine sd_app (p := pt) rfl nt.o (by rw [List.length_map]; omega) (fun j q ys hj hq => match j, hj, hq with
        | 0, _, hq => by cases hq
        | 1, _, hq => by cases hq
        | 2, _, hq => by cases hq
        | 3, hj, hq => by first | exact absurd rfl hj | (cases hq; exact n12)
        | 4, hj, hq => by first | exact absurd rfl hj | (cases hq; exact nt.o.elim)
        | 5, hj, hq => by first | exact absurd rfl hj | (cases hq; exact n23.symm)
        | 6, _, hq => by cases hq
        | 7, _, hq => by cases hq
        | n + 8, _, hq => by simp at hq) ?_
      walk_at "eds"
      rw [map_push]
      exact ⟨ts ++ [p], ss, _, _, rfl, by rw [List.length_append]; show ts.length + 1 + ss.length = _; omega, h3, all_push tok hp, sok, one⟩
    · refine sd_app (p := ps) rfl ns.o (by rw [List.length_map]; omega) (fun j q ys hj hq => match j, hj, hq with
        | 0, _, hq => by cases hq
        | 1, _, hq => by cases hq
        | 2, _, hq => by cases hq
        | 3, hj, hq => by first | exact absurd rfl hj | (cases hq; exact n13)
        | 4, hj, hq => by first | exact absurd rfl hj | (cases hq; exact n23)
        | 5, hj, hq => by first | exact absurd rfl hj | (cases hq; exact ns.o.elim)
        | 6, _, hq => by cases hq
        | 7, _, hq => by cases hq
        | n + 8, _, hq => by simp at hq) ?_
      have fin : ∀ p2 : Pl, PlIn hands bs.length p2 → ((∃ n, p2 = .hand n) ∨ p2 ∉ ss) → ∃ (ts' ss' : List Pl) (x6 x7 : Option A), List.set ([some (.v (.ref hA)), some (.d (.int 5)), some (.d (.int (hands : Int))), some (.o pb (bs.map Pl.e)), some (.o pt (ts.map Pl.e)), some (.o ps (ss.map Pl.e)), some (.d (.int (i : Int))), some (.d p.e)]) 5 (some (.o ps (ss.map Pl.e ++ [p2.e]))) = [some (.v (.ref hA)), some (.d (.int 5)), some (.d (.int (hands : Int))), some (.o pb (bs.map Pl.e)), some (.o pt (ts'.map Pl.e)), some (.o ps (ss'.map Pl.e)), x6, x7] ∧ ts'.length + ss'.length = i + 1 ∧ ss'.length ≤ 3 ∧ (∀ p ∈ ts', PlIn hands bs.length p) ∧ (∀ p ∈ ss', PlIn hands bs.length p) ∧ OneB ss' := fun p2 hp2 ho => by
        rw [map_push]
        exact ⟨ts, ss ++ [p2], _, _, rfl, by rw [List.length_append]; show ts.length + (ss.length + 1) = _; omega, by rw [List.length_append]; show ss.length + 1 ≤ 3; have := hb e; omega, tok, all_push sok hp2, one.push ho⟩
      walk_at "eds"
      rw [eqv_str]
      refine if_dec (fun hc => ?_) fun hc => ?_
      · walk_at "eds"
        refine fin p hp (.inl ?_)
        cases p with
        | hand n => exact ⟨n, rfl⟩
        | box n => exact absurd hc (show ¬ (("box" : Str) = "hand") by decide +kernel)
        | gone => exact hp.elim
      · walk_at "eds"
        refine rd_notInD (shp_pl _).ok (shp_plsL _).ok ?_
        rw [any_pl]
        walk_at "eds"
        refine if_b (fun hc2 => ?_) fun _ => ?_
        · walk_at "eds"
          exact fin p hp (.inr (by simpa using hc2))
        · walk_at "eds"
          exact fin (.hand 0) hh1 (.inl ⟨0, rfl⟩)
  · subst eΓ
    walk_at "eds"
    exact ⟨k ⟨hands, bs, ts, ss⟩ ⟨hh1, hh3, hb1, hb2, by show ts.length ≤ 4; omega, h3, hbo, tok, sok, one⟩, fun _ _ z => by cases z⟩
end
end Q47
set_option maxHeartbeats 4000000
/-! ### rows -/
namespace Q47
open PySem L2
open PySem.W (Frag)
open PyProof.Rows (envOfC)
local macro_rules | `(tactic| walk_at "shp") => `(tactic| first
  | with_reducible exact (shp_int _).ok
  | with_reducible exact (shp_pl _).ok
  | with_reducible exact (shp_bool _).ok
  | with_reducible exact (shp_it _).ok
  | with_reducible exact (shp_str (by decide +kernel)).ok
  | with_reducible exact (shp_2 (shp_str (by decide +kernel)) (shp_int _)).ok
  | with_reducible exact (shp_st _).ok
  | with_reducible exact (shp_str (kd_ok _)).ok
  | with_reducible exact (shp_str (pl_ok _)).ok
  | with_reducible exact (shp_pls _).ok
  | with_reducible exact (shp_hs _).ok
  | with_reducible exact shp_nil.ok
  | with_reducible exact (shp_dd _).ok
  | with_reducible exact (shp_sg _).ok
  | with_reducible exact (shp_rw _).ok
  | assumption)
local macro_rules | `(tactic| walk_at "ed") => `(tactic| first
  | ((with_reducible refine' ed_var ?hv ?_); (case hv => exact rfl))
  | with_reducible refine ed_int ?_
  | with_reducible refine ed_str ?_
  | with_reducible refine ed_bl ?_
  | with_reducible refine ed_non ?_
  | with_reducible refine edd_cons ?_
  | with_reducible refine edd_nil ?_
  | with_reducible refine eda_cons ?_
  | with_reducible refine eda_nil ?_
  | with_reducible refine ⟨_, rfl, ?_⟩
  | with_reducible refine ⟨_, _, rfl, ?_⟩
  | with_reducible refine ⟨_, _, _, rfl, ?_⟩
  | with_reducible refine ed_tupD ?_
  | with_reducible refine ed_lstD ?_
  | with_reducible refine ed_op ?_
  | with_reducible refine ed_lstRg ?_
  | with_reducible refine ed_cb ?_
  | with_reducible refine ed_call ?_
  | with_reducible refine ed_and ?_
  | with_reducible refine ed_or ?_
  | with_reducible refine ed_not ?_
  | with_reducible refine ed_if ?_
  | with_reducible refine td_test ?_
  | with_reducible refine td_B ?_
  | with_reducible refine td_and ?_
  | with_reducible refine td_or ?_
  | with_reducible refine td_not ?_
  | with_reducible refine td_yes ?_
  | with_reducible refine rd_I0 ?_
  | with_reducible refine rd_B0 ?_
  | ((with_reducible refine rd_eq ?hx ?hy ?_); (case hx => walk_at "shp"); (case hy => walk_at "shp"))
  | ((with_reducible refine rd_ne ?hx ?hy ?_); (case hx => walk_at "shp"); (case hy => walk_at "shp"))
  | ((with_reducible refine' rd_ixTi ?h0 ?hi ?_); (case h0 => decide); (case hi => exact rfl))
  | ((with_reducible refine len_ok ?hl ?_); (case hl => exact rfl))
  | ((with_reducible refine ed_dsel3 ?a12 ?a13 ?a23 ?_); (case a12 => decide +kernel); (case a13 => decide +kernel); (case a23 => decide +kernel))
  | with_reducible refine fun _ (_ : New _ _ _) => ?_
  | with_reducible refine cd_lenK (.inr ⟨_, rfl, ?_⟩)
  | with_reducible refine cd_lenK (.inl ⟨_, _, rfl, ?_⟩)
  | with_reducible refine cd_tupleK ?_
  | ((with_reducible refine if_t ?hc ?_); (case hc => first | rfl | decide +kernel))
  | ((with_reducible refine if_f ?hc ?_); (case hc => first | rfl | decide +kernel))
  | with_reducible refine sd_par ?_
  | with_reducible refine sd_par3 ?_
  | with_reducible refine sd_next ?_
  | with_reducible refine sd_ret ?_
  | with_reducible refine sd_seq ?_
  | with_reducible refine sd_asg ?_
  | with_reducible refine gd_name ?_
  | with_reducible refine sd_if ?_)
local macro_rules | `(tactic| walk_at "out") => `(tactic| exact ⟨by assumption, fun _ _ z => by cases z⟩)
local macro_rules | `(tactic| walk_at "eds") => `(tactic| repeat walk_at "ed")

/-- fewer slots told -/
def Wk (Γ3 Γ2 : Gm) : Prop := Γ3.length = Γ2.length ∧ ∀ (i : Nat) (a : A), Γ3[i]? = some (some a) → Γ2[i]? = some (some a)
theorem ED.mono' {K : Frag} {W : Wd} {te : TE} {Γ : Gm} {κ κ' : A → Prop} (h : ED K W te Γ κ) (k : ∀ a, κ a → κ' a) : ED K W te Γ κ' := h.mono k
section
variable {K : Frag} {W : Wd} {Γ Γ3 : Gm} {κ κ' : A → Prop} {N : Gm → Prop} {R : A → Prop} {t : TS} {te : TE}
theorem sd_pre (h : SD K W t Γ3 N R) (k : Wk Γ3 Γ) : SD K W t Γ N R := fun σ H D e s hn hr => h σ H D (e.weak k.1 k.2) s hn hr
theorem sd_post (h : SD K W t Γ (fun Γ2 => ∃ Γ3, Wk Γ3 Γ2 ∧ N Γ3) R) : SD K W t Γ N R := fun σ H D e s hn hr => h σ H D e s (fun σ' H' Γ' r s' e' ⟨Γ3, k, n⟩ => hn σ' H' Γ3 r s' (e'.weak k.1 k.2) n) hr
end
section
variable {K : Frag} {W : Wd} {Γ : Gm} {κ κ' : A → Prop} {N : Gm → Prop} {R : A → Prop}
/-- a, b = e, [] -/
theorem sd_two {te : TE} {i j : Nat} (h : ED K W te Γ fun a => ∃ d, a = .d d ∧ ∀ p1, New W Γ p1 → N ((Γ.set i (some (.d d))).set j (some (.o p1 [])))) :
    SD K W (tAsg (tTup (tCons te (tCons (tLst tNil) tNil))) (gTup K 2 (gCons (gName i) (gCons (gName j) gNil)))) Γ N R := fun σ H D e s hn _ => by
  refine h σ H _ e s fun v H1 a r1 s1 ha k => ?_
  obtain ⟨d, rfl, k⟩ := k
  refine ⟨by decide, fun p1 n1 => ⟨by show 2 ≤ sizeLine; decide, fun p n => ?_⟩⟩
  have m1 := same_new (o := HO.lst []) n1
  have m4 := same_new (o := HO.tup [v, .ref p1]) n
  have t1 := Wd.same s1 m1
  have t4 := Wd.same t1 m4
  have r2 := r1.trans (Ro.of_same m1)
  have r4 := r2.trans (Ro.of_same m4)
  refine ⟨p, _, rfl, SqT.of upd_same, rfl, v, _, rfl, _, _, rfl, rfl, ?_⟩
  refine hn _ _ _ (r4.rs s) t4 (((e.keep s r4).set i (a := .d d) ?_).set j (a := .o p1 []) ?_) (k p1 (new_of e s r1 s1 n1))
  · exact Rt.keep (Kp.of_same (m1.trans m4)) ha
  · exact ⟨rfl, Wd.freshM s1 n1, [], m4 _ _ upd_same, .nil⟩
end
theorem Wk.cons {a : Option A} {Γ3 Γ2 : Gm} (h : Wk Γ3 Γ2) : Wk (a :: Γ3) (a :: Γ2) := ⟨by rw [List.length_cons, List.length_cons, h.1], fun i b q => by
  cases i with
  | zero => exact q
  | succ i => exact h.2 i b (by simpa using q)⟩
theorem Wk.non {a : Option A} {Γ3 Γ2 : Gm} (h : Wk Γ3 Γ2) : Wk (none :: Γ3) (a :: Γ2) := ⟨by rw [List.length_cons, List.length_cons, h.1], fun i b q => by
  cases i with
  | zero => cases q
  | succ i => exact h.2 i b (by simpa using q)⟩
theorem Wk.nil : Wk [] [] := ⟨rfl, fun i b q => q⟩
theorem dd_word (d : Dd) : ∃ w r, d.e = .tuple (.str w :: r) ∧ PyData.strOk w = true ∧ ¬ w = "gap" := by
  cases d <;> exact ⟨_, _, rfl, by decide +kernel, by decide +kernel⟩
theorem shp_dds (l : List Dd) : Shp 3 (.list (l.map Dd.e)) := shp_lst fun d hd => by
  obtain ⟨p, _, rfl⟩ := List.mem_map.mp hd
  exact shp_dd p
theorem ne_nil {l : List Dd} (h : (!PyData.eqv (.list (l.map Dd.e)) (.list [])) = true) : 0 < l.length := by
  cases l with
  | nil => simp [PyData.eqv, PyData.eqvAll] at h
  | cons _ _ => simp
/-- no list at p is told -/
def NoO (p : Addr) : Gm → Prop
  | [] => True
  | some (.o q _) :: l => q ≠ p ∧ NoO p l
  | some (.d _) :: l => NoO p l
  | some (.v _) :: l => NoO p l
  | some (.p _) :: l => NoO p l
  | none :: l => NoO p l
theorem NoO.ne {p : Addr} : ∀ {Γ : Gm} {j : Nat} {q : Addr} {ys : List PyData}, NoO p Γ → Γ[j]? = some (some (.o q ys)) → q ≠ p
  | [], _, _, _, _, h => by simp at h
  | a :: l, 0, q, ys, n, h => by
    simp at h
    subst h
    exact n.1
  | a :: l, j + 1, q, ys, n, h => by
    refine NoO.ne (Γ := l) (j := j) ?_ (by simpa using h)
    match a, n with
    | some (.o _ _), n => exact n.2
    | some (.d _), n => exact n
    | some (.v _), n => exact n
    | some (.p _), n => exact n
    | none, n => exact n
theorem hne_of {p : Addr} {Γ : Gm} {i : Nat} (h : NoO p (Γ.set i none)) : ∀ (j : Nat) q ys, j ≠ i → Γ[j]? = some (some (.o q ys)) → q ≠ p := fun j q ys hj hq => h.ne (j := j) (by rw [List.getElem?_set_ne (Ne.symm hj)]; exact hq)
theorem push_rw (l : List Rw) (p : Rw) : l.map Rw.e ++ [p.e] = (l ++ [p]).map Rw.e := by rw [List.map_append]; rfl
theorem rise_snoc {hs : List Nat} {i : Nat} (hp : hs.Pairwise (· < ·)) (hl : ∀ x ∈ hs, x < i) : (hs ++ [i]).Pairwise (· < ·) := List.pairwise_append.mpr ⟨hp, List.pairwise_singleton _ _, fun a ha b hb => by rw [List.mem_singleton.mp hb]; exact hl a ha⟩
theorem wk7 {l : Gm} (h : l.length = 7) : Wk [none, none, none, none, none, none, none] l := by
  match l, h with
  | [_, _, _, _, _, _, _], _ => exact .non (.non (.non (.non (.non (.non (.non .nil))))))
section
variable {P : Program} {w : World} {K : Frag} {mg : Str → Option Value} {base : Heap}
theorem st_start {h : Hs} (hh : HsOk h) : StOk h h.st := by
  refine ⟨rfl, rfl, rfl, fun p hp => ?_, fun p hp => ?_, fun p hp => ?_⟩
  · obtain ⟨i, hi, e⟩ := List.mem_iff_getElem.mp hp
    have q := hh.box i p (by rw [List.getElem?_eq_getElem hi, e])
    cases p with
    | hand n => exact q
    | box n =>
      have q' : n < i := q
      have : i < h.boxes.length := hi
      show n < h.boxes.length
      omega
    | gone => trivial
  · have q := hh.thing p hp
    cases p with
    | hand n => exact q
    | box n => exact q
    | gone => trivial
  · have q := hh.sealp p hp
    cases p with
    | hand n => exact q
    | box n => exact q
    | gone => trivial
abbrev s__law_rows : Stmt := topS 78
abbrev N__law_rows : List Str := ["_law_h", "_law_drawn_here", "_law_many", "_law_state", "_law_found", "_law_every", "_law_k", "_law_kind", "_law_hands", "_law_hand", "_law_step", "_law_some", "_law_deed"]
theorem sc__law_rows : FnScope N__law_rows ["_law_h", "_law_drawn_here", "_law_many"] (defScope s__law_rows) := ⟨rfl, rfl, rfl, by decide +kernel, rfl, by decide +kernel, by decide +kernel⟩
def preRows : Wd → List A → (A → Prop) → Prop := fun W as κ => ∃ (hA hL : Addr) (h : Hs) (m : Nat), as = [.v (.ref hA), .d h.e, .d (.int (m : Int))] ∧ SrcW W hA hL ∧ HsOk h ∧ m ≤ 8 ∧ ∀ p (rs : List Rw), rs.length ≤ 8 → (∀ r ∈ rs, RwOk h r) → κ (.o p (rs.map Rw.e))
abbrev RwR (hA : Addr) (h : Hs) (m : Nat) (pf pe : Addr) (st : Stt) (xs : List PyData) (l : Gm) : Gm := some (.v (.ref hA)) :: some (.d h.e) :: some (.d (.int (m : Int))) :: some (.d st.e) :: some (.o pf xs) :: some (.o pe ((List.range h.hands).map fun i : Nat => .int (i : Int))) :: l
abbrev RwG (hA : Addr) (h : Hs) (m : Nat) (pf pe : Addr) (st : Stt) (rs : List Rw) (l : Gm) : Gm := RwR hA h m pf pe st (rs.map Rw.e) l
abbrev no7 : Gm := [none, none, none, none, none, none, none]
theorem wkRw {hA : Addr} {h : Hs} {m : Nat} {pf pe : Addr} {st : Stt} {xs : List PyData} {l l' : Gm} (k : Wk l l') : Wk (RwR hA h m pf pe st xs l) (RwR hA h m pf pe st xs l') := .cons (.cons (.cons (.cons (.cons (.cons k)))))
theorem ok_rows (T : Tx K mg) : Ok P w K mg base 4 ("_law_rows", none) ["_law_h", "_law_drawn_here", "_law_many"] (spD K preRows) := by
  have f__law_next : Ok P w K mg base 1 ("_law_next", none) ["_law_h", "_law_limit"] (spD K preNext) := ok_next T
  have f__law_known : Ok P w K mg base 2 ("_law_known", none) ["_law_drawn_here", "_law_hands"] (spD K preKnown) := ok_known T
  have f__law_may : Ok P w K mg base 2 ("_law_may", none) ["_law_state", "_law_deed"] (spD K preMay) := ok_may T
  have f__law_done : Ok P w K mg base 2 ("_law_done", none) ["_law_state", "_law_deed"] (spD K preDone) := ok_done T
  have f__law_sight : Ok P w K mg base 3 ("_law_sight", none) ["_law_h", "_law_drawn_here", "_law_state"] (spD K preSight) := ok_sight T
  refine okD T.d__law_rows sc__law_rows (fun _ _ _ _ _ _ us hl => match us, hl with | [_, _, _], _ => rfl) (fun _ _ _ ⟨_, _, _, _, e, _⟩ => by rw [e]; rfl) (fun _ _ _ H ⟨hA, hL, h, m, e, sw, r⟩ => ⟨hA, hL, h, m, e, sw.at H, r⟩) fun f cdv Ar outer s H E hr W as κ ⟨hA, hL, h, m, e, sw, hh, hm, k⟩ => ?_
  subst e
  refine ⟨_, (pss_cons (ps_asg (pe_tup (pa_cons (pe_tup (pa_cons (pe_ix (ix_tupK K) (pv 1) pe_int (fun _ _ => rfl)) (pa_cons (pe_ix (ix_tupK K) (pv 1) pe_int (fun _ _ => rfl)) (pa_cons (pe_ix (ix_tupK K) (pv 1) pe_int (fun _ _ => rfl)) pa_nil)))) (pa_cons (pe_lst pa_nil) pa_nil))) (pg_tupK (n := 2) K rfl (pgs_cons (pg_name (i := 3) sc__law_rows.nd rfl (Or.inr rfl)) (pgs_cons (pg_name (i := 4) sc__law_rows.nd rfl (Or.inl rfl)) pgs_nil))))
      (pss_cons (ps_set (i := 5) sc__law_rows.nd rfl (Or.inl rfl) (pe_listRg rfl rfl T.b_list (prg_1 rfl T.b_range (pe_ix (ix_tupK K) (pv 1) pe_int (fun _ _ => rfl)))))
      (pss_cons (ps_for PassesOwn.never rfl (pi_range1 rfl T.b_range (pa_cons (pv 2) pa_nil)) (pg_name (i := 6) sc__law_rows.nd rfl (Or.inl rfl)) (pss_cons (ps_set (i := 7) sc__law_rows.nd rfl (Or.inl rfl) (pe_cf f__law_next (hr.mono (by decide)) T.g__law_next (pa_cons (pv 0) (pa_cons pe_int pa_nil))))
      (pss_one (ps_if (pt_cmpR op_lt (pv 7) pe_int (nomark _)) (pss_cons (ps_set (i := 8) sc__law_rows.nd rfl (Or.inl rfl) (pe_callTy (call_tupleK K) (by rfl) T.b_tuple (by decide +kernel) (pa_cons (pe_lc (own := [("_law_hand", 9)]) rfl sc__law_rows.nd (pi_listK K (pv 5)) (blkOk_by (own := [("_law_hand", 9)]) (N := N__law_rows) (sc := defScope s__law_rows) (by decide +kernel)) (fun _ _ _ _ _ => (pg_name (i := 9) sc__law_rows.nd rfl (Or.inl rfl))) (fun _ _ _ _ _ => pts_one (pt_cmpR (op_eqDK K hr.units) (pe_cf f__law_next (hr.mono (by decide)) T.g__law_next (pa_cons (pv 0) (pa_cons pe_int pa_nil))) pe_int (nomark _))) (fun _ _ _ _ _ => (pv 9))) pa_nil)))
      (pss_cons (ps_expr (pe_bmK K PySem.F.plainAttrs_list PySem.F.slot_list_append PySem.F.type_list_append mt_append (pv 4) (pa_cons (pe_tup (pa_cons pe_str (pa_cons (pv 8) pa_nil))) pa_nil)))
      (pss_one (ps_for PassesOwn.never rfl (pi_range1 rfl T.b_range (pa_cons (pe_cf f__law_next (hr.mono (by decide)) T.g__law_next (pa_cons (pv 0) (pa_cons pe_int pa_nil))) pa_nil)) (pg_name (i := 10) sc__law_rows.nd rfl (Or.inl rfl)) (pss_cons (ps_setLc (i := 11) (own := [("_law_deed", 12)]) rfl sc__law_rows.nd rfl rfl (sw_true rfl rfl rfl (by decide +kernel)) (pi_listK K (pe_cf f__law_known (hr.mono (by decide)) T.g__law_known (pa_cons (pv 1) (pa_cons (pv 8) pa_nil)))) (blkOk_by (own := [("_law_deed", 12)]) (N := N__law_rows) (sc := defScope s__law_rows) (by decide +kernel)) (fun _ _ _ _ _ => (pg_name (i := 12) sc__law_rows.nd rfl (Or.inl rfl))) (fun _ _ _ _ _ => pts_one (pt_val (pe_cf f__law_may (hr.mono (by decide)) T.g__law_may (pa_cons (pv 3) (pa_cons (pv 12) pa_nil))))) (fun _ _ _ _ _ => (pv 12)))
      (pss_one (ps_set (i := 3) sc__law_rows.nd rfl (Or.inr rfl) (pe_ifExp (pt_cmpR (op_neDK K hr.units) (pv 11) (pe_lst pa_nil) (nomark _)) (pe_cf f__law_done (hr.mono (by decide)) T.g__law_done (pa_cons (pv 3) (pa_cons (pe_ix (ix_listK K) (pv 11) (pe_cf f__law_next (hr.mono (by decide)) T.g__law_next (pa_cons (pv 0) (pa_cons (pe_callB (call_lenK K) (by rfl) T.b_len (by decide +kernel) (pa_cons (pv 11) pa_nil)) pa_nil))) (fun _ _ => rfl)) pa_nil))) (pv 3))))))))) (pss_one (ps_if (pt_cmpR (op_eqDK K hr.units) (pv 7) pe_int (nomark _)) (pss_cons (ps_setLc (i := 11) (own := [("_law_deed", 12)]) rfl sc__law_rows.nd rfl rfl (sw_true rfl rfl rfl (by decide +kernel)) (pi_listK K (pe_cf f__law_known (hr.mono (by decide)) T.g__law_known (pa_cons (pv 1) (pa_cons (pv 5) pa_nil)))) (blkOk_by (own := [("_law_deed", 12)]) (N := N__law_rows) (sc := defScope s__law_rows) (by decide +kernel)) (fun _ _ _ _ _ => (pg_name (i := 12) sc__law_rows.nd rfl (Or.inl rfl))) (fun _ _ _ _ _ => pts_one (pt_val (pe_cf f__law_may (hr.mono (by decide)) T.g__law_may (pa_cons (pv 3) (pa_cons (pv 12) pa_nil))))) (fun _ _ _ _ _ => (pv 12)))
      (pss_cons (ps_set (i := 11) sc__law_rows.nd rfl (Or.inl rfl) (pe_ifExp (pt_cmpR op_gt (pe_cf f__law_next (hr.mono (by decide)) T.g__law_next (pa_cons (pv 0) (pa_cons pe_int pa_nil))) pe_int (nomark _)) (pv 11) (pe_cf f__law_known (hr.mono (by decide)) T.g__law_known (pa_cons (pv 1) (pa_cons (pv 5) pa_nil)))))
      (pss_cons (ps_set (i := 12) sc__law_rows.nd rfl (Or.inl rfl) (pe_ifExp (pt_cmpR (op_neDK K hr.units) (pv 11) (pe_lst pa_nil) (nomark _)) (pe_ix (ix_listK K) (pv 11) (pe_cf f__law_next (hr.mono (by decide)) T.g__law_next (pa_cons (pv 0) (pa_cons (pe_callB (call_lenK K) (by rfl) T.b_len (by decide +kernel) (pa_cons (pv 11) pa_nil)) pa_nil))) (fun _ _ => rfl)) (pe_tup (pa_cons pe_str (pa_cons (pe_tup pa_nil) pa_nil)))))
      (pss_cons (ps_expr (pe_bmK K PySem.F.plainAttrs_list PySem.F.slot_list_append PySem.F.type_list_append mt_append (pv 4) (pa_cons (pv 12) pa_nil)))
      (pss_one (ps_set (i := 3) sc__law_rows.nd rfl (Or.inr rfl) (pe_ifExp (PW.pt (pw_and (pt_cmpR (op_neDK K hr.units) (pe_ix (ix_tupK K) (pv 12) pe_int (fun _ _ => rfl)) pe_str (nomark _)) (pw_and1 (pt_val (pe_cf f__law_may (hr.mono (by decide)) T.g__law_may (pa_cons (pv 3) (pa_cons (pv 12) pa_nil))))))) (pe_cf f__law_done (hr.mono (by decide)) T.g__law_done (pa_cons (pv 3) (pa_cons (pv 12) pa_nil))) (pv 3)))))))) (pss_one (ps_expr (pe_bmK K PySem.F.plainAttrs_list PySem.F.slot_list_append PySem.F.type_list_append mt_append (pv 4) (pa_cons (pe_cf f__law_sight (hr.mono (by decide)) T.g__law_sight (pa_cons (pv 0) (pa_cons (pv 1) (pa_cons (pv 3) pa_nil)))) pa_nil))))))))))
      (pss_one (ps_ret (pv 4)))))), ?_⟩
  have h1 := hh.h1
  have h3 := hh.h3
  have so : StOk h h.st := st_start hh
  refine sd_seq (sd_two ?_)
  walk_at "eds"
  rename_i pf npf
  refine ⟨by omega, fun pe npe => ?_⟩
  have nef : pe ≠ pf := npe.g 4 pf _ rfl
  walk_at "eds"
  refine sd_forR (n := m) (fun i Γ' => ∃ st rs, Γ' = RwG hA h m pf pe st rs no7 ∧ StOk h st ∧ rs.length = i ∧ ∀ r ∈ rs, RwOk h r) (eda_cons (ed_var rfl (eda_nil rfl))) (by omega) ⟨h.st, [], rfl, so, rfl, fun r m => by cases m⟩ (fun i Γ' hi ⟨st, rs, eΓ, hst, hl, hok⟩ => ?_) fun Γ' ⟨st, rs, eΓ, hst, hl, hok⟩ => ?_
  · subst eΓ
    refine gd_name (sd_post ?_)
    have fin : ∀ (st' : Stt) (r : Rw) (l : Gm), l.length = 7 → StOk h st' → RwOk h r → ∃ Γ3, Wk Γ3 (RwR hA h m pf pe st' (rs.map Rw.e ++ [r.e]) l) ∧ ∃ st rs, Γ3 = RwG hA h m pf pe st rs no7 ∧ StOk h st ∧ rs.length = i + 1 ∧ ∀ r ∈ rs, RwOk h r := fun st' r l hl7 hs' hr => by
      rw [push_rw]
      refine ⟨_, wkRw (wk7 hl7), st', rs ++ [r], rfl, hs', by rw [List.length_append, hl]; rfl, fun x hx => ?_⟩
      rcases List.mem_append.mp hx with hx | hx
      · exact hok x hx
      · rw [List.mem_singleton.mp hx]
        exact hr
    walk_at "eds"
    refine ⟨hA, hL, 5, rfl, sw, by decide, by decide, fun kind _ _ => ?_⟩
    walk_at "eds"
    refine if_b (fun _ => ?_) fun _ => ?_
    · walk_at "eds"
      refine ed_lcL (by decide) ?_
      walk_at "eds"
      refine ⟨by rw [List.length_map, List.length_range]; omega, fun j acc => ∃ hs : List Nat, acc = (hs.map fun n : Nat => PyData.int (n : Int)) ∧ (∀ x ∈ hs, x < j) ∧ hs.Pairwise (· < ·), ⟨[], rfl, (fun x m => by cases m), .nil⟩, fun j d acc hd ⟨hs, ea, hlt, hp⟩ => ?_, fun q acc hq hl ⟨hs, ea, hlt, hp⟩ => ?_⟩
      · have ed : d = .int (j : Int) := by
          obtain ⟨k, hk, rfl⟩ := map_at' hd
          obtain ⟨h1, h2⟩ := List.getElem?_eq_some_iff.mp hk
          rw [List.getElem_range] at h2
          rw [h2]
        subst ed
        walk_at "eds"
        refine ⟨hA, hL, 2, rfl, sw, by decide, by decide, fun _ _ _ => ?_⟩
        walk_at "eds"
        refine if_b (fun _ => ?_) fun _ => ?_
        · walk_at "eds"
          refine ⟨hs ++ [j], by rw [ea, List.map_append]; rfl, fun x hx => ?_, rise_snoc hp hlt⟩
          rcases List.mem_append.mp hx with hx | hx
          · exact Nat.lt_succ_of_lt (hlt x hx)
          · rw [List.mem_singleton.mp hx]
            exact Nat.lt_succ_self j
        · exact ⟨hs, ea, fun x hx => Nat.lt_succ_of_lt (hlt x hx), hp⟩
      subst ea
      rw [List.length_map, List.length_map, List.length_range] at hl
      rw [List.length_map, List.length_range] at hlt
      have hgap : RwOk h (.gap hs) := ⟨hlt, fun k a b ha hb => rise_at hp ha hb, by omega⟩
      walk_at "eds"
      refine sd_app (p := pf) rfl npf.o (by rw [List.length_map]; omega) (hne_of (And.intro nef trivial)) ?_
      walk_at "eds"
      refine sd_forRx ?_
      walk_at "eds"
      refine ⟨hA, hL, 3, rfl, sw, by decide, by decide, fun n3 _ _ => ?_⟩
      refine eda_nil ⟨n3, rfl, by omega, fun j Γ' => ∃ st', Γ' = RwR hA h m pf pe st' (rs.map Rw.e ++ [(Rw.gap hs).e]) [some (.d (.int (i : Int))), some (.d (.int (kind : Int))), some (.d (natsE hs)), none, none, none, none] ∧ StOk h st', ⟨st, ?_, hst⟩, fun j Γ' hj ⟨st', eΓ, hst'⟩ => ?_, fun Γ' ⟨st', eΓ, hst'⟩ => ?_⟩
      · rfl
      · subst eΓ
        refine gd_name (sd_post ?_)
        have fin2 : ∀ (s2 : Stt) (l : Gm), l.length = 4 → StOk h s2 → ∃ Γ3, Wk Γ3 (RwR hA h m pf pe s2 (rs.map Rw.e ++ [(Rw.gap hs).e]) (some (.d (.int (i : Int))) :: some (.d (.int (kind : Int))) :: some (.d (natsE hs)) :: l)) ∧ ∃ st', Γ3 = RwR hA h m pf pe st' (rs.map Rw.e ++ [(Rw.gap hs).e]) [some (.d (.int (i : Int))), some (.d (.int (kind : Int))), some (.d (natsE hs)), none, none, none, none] ∧ StOk h st' := fun s2 l hl4 hs2 => by
          match l, hl4 with
          | [_, _, _, _], _ => exact ⟨_, wkRw (.cons (.cons (.cons (.non (.non (.non (.non .nil))))))), s2, rfl, hs2⟩
        walk_at "eds"
        refine ed_lcL (by decide) ?_
        walk_at "eds"
        refine ⟨h, hs, .d (natsE hs), rfl, .inl rfl, hh, hlt, by omega, fun q ds hdl hdd _ => ?_⟩
        refine ⟨_, _, rfl, by rw [List.length_map]; omega, fun _ acc => ∃ es : List Dd, acc = es.map Dd.e ∧ ∀ d ∈ es, DdOk h d ∧ Doable st' d, ⟨[], rfl, fun d m => by cases m⟩, fun j2 d acc hd ⟨es, ea, he⟩ => ?_, fun q2 acc hq2 hl2 ⟨es, ea, he⟩ => ?_⟩
        · obtain ⟨dd, hdm, rfl⟩ := map_at2 hd
          walk_at "eds"
          refine ⟨h, st', dd, rfl, hh, hst', hdd _ hdm, fun b hb _ => ?_⟩
          walk_at "eds"
          refine if_b (fun eb => ?_) fun _ => ⟨es, ea, he⟩
          walk_at "eds"
          refine ⟨es ++ [dd], by rw [ea, List.map_append]; rfl, fun x hx => ?_⟩
          rcases List.mem_append.mp hx with hx | hx
          · exact he x hx
          · rw [List.mem_singleton.mp hx]
            exact ⟨hdd _ hdm, hb eb⟩
        subst ea
        rw [List.length_map, List.length_map] at hl2
        walk_at "eds"
        refine rd_neL (y := []) (shp_dds _).ok (by decide +kernel) ?_
        walk_at "eds"
        refine if_b (fun hc => ?_) fun _ => ?_
        · have hne := ne_nil hc
          walk_at "eds"
          simp only [List.length_map]
          refine ⟨hA, hL, es.length, rfl, sw, hne, by omega, fun x hx _ => ?_⟩
          refine rd_ixL (map_at (List.getElem?_eq_getElem hx)) ?_
          walk_at "eds"
          have hm := he _ (List.getElem_mem hx)
          refine ⟨h, st', es[x], rfl, hh, hst', hm.1, hm.2, fun s' hs' _ => ?_⟩
          walk_at "eds"
          exact fin2 s' [_, _, _, _] rfl hs'
        · walk_at "eds"
          exact fin2 st' [_, _, _, _] rfl hst'
      · subst eΓ
        exact fin st' (.gap hs) [_, _, _, _, _, _, _] rfl hst' hgap
    walk_at "eds"
    refine if_b (fun _ => ?_) fun _ => ?_
    · walk_at "eds"
      refine ed_lcL (by decide) ?_
      walk_at "eds"
      refine ⟨h, List.range h.hands, _, rfl, .inr ⟨pe, rfl⟩, hh, fun x hx => List.mem_range.mp hx, by rw [List.length_range]; omega, fun q ds hdl hdd _ => ?_⟩
      refine ⟨_, _, rfl, by rw [List.length_map]; omega, fun _ acc => ∃ es : List Dd, acc = es.map Dd.e ∧ ∀ d ∈ es, DdOk h d, ⟨[], rfl, fun d m => by cases m⟩, fun j2 d acc hd ⟨es, ea, he⟩ => ?_, fun q2 acc hq2 hl2 ⟨es, ea, he⟩ => ?_⟩
      · obtain ⟨dd, hdm, rfl⟩ := map_at2 hd
        walk_at "eds"
        refine ⟨h, st, dd, rfl, hh, hst, hdd _ hdm, fun b hb _ => ?_⟩
        walk_at "eds"
        refine if_b (fun eb => ?_) fun _ => ⟨es, ea, he⟩
        walk_at "eds"
        refine ⟨es ++ [dd], by rw [ea, List.map_append]; rfl, fun x hx => ?_⟩
        rcases List.mem_append.mp hx with hx | hx
        · exact he x hx
        · rw [List.mem_singleton.mp hx]
          exact hdd _ hdm
      subst ea
      rw [List.length_map, List.length_map] at hl2
      refine gd_name (sd_seq (sd_asg (ED.mono' (κ := fun a => ∃ (q : Addr) (ds : List Dd), a = .o q (ds.map Dd.e) ∧ ds.length ≤ 50000 ∧ ∀ d ∈ ds, DdOk h d) ?_ fun a ⟨q3, ds3, ea3, hl3, hd3⟩ => ?_)))
      · walk_at "eds"
        refine ⟨hA, hL, 9, rfl, sw, by decide, by decide, fun _ _ _ => ?_⟩
        walk_at "eds"
        refine if_b (fun _ => ?_) fun _ => ?_
        · refine ed_var rfl ?_
          exact ⟨_, es, rfl, by omega, he⟩
        · walk_at "eds"
          exact ⟨h, List.range h.hands, _, rfl, .inr ⟨pe, rfl⟩, hh, fun x hx => List.mem_range.mp hx, by rw [List.length_range]; omega, fun q ds hdl hdd _ => ⟨_, ds, rfl, hdl, hdd⟩⟩
      subst ea3
      refine gd_name (sd_seq (sd_asg (ED.mono' (κ := fun a => ∃ r : Rw, a = .d r.e ∧ ((∃ d, r = .deed d ∧ DdOk h d) ∨ r = .gap [])) ?_ fun a ⟨r, ea4, hr⟩ => ?_)))
      · walk_at "eds"
        refine rd_neL (y := []) (shp_dds _).ok (by decide +kernel) ?_
        walk_at "eds"
        refine if_b (fun hc => ?_) fun _ => ?_
        · have hne := ne_nil hc
          walk_at "eds"
          simp only [List.length_map]
          refine ⟨hA, hL, ds3.length, rfl, sw, hne, by omega, fun x hx _ => ?_⟩
          refine rd_ixL (map_at (List.getElem?_eq_getElem hx)) ?_
          exact ⟨.deed ds3[x], rfl, .inl ⟨_, rfl, hd3 _ (List.getElem_mem hx)⟩⟩
        · walk_at "eds"
          exact ⟨.gap [], rfl, .inr rfl⟩
      subst ea4
      refine gd_name (sd_pre (Γ3 := RwG hA h m pf pe st rs [some (.d (.int (i : Int))), some (.d (.int (kind : Int))), none, none, none, none, some (.d r.e)]) ?_ (wkRw (.cons (.cons (.non (.non (.non (.non (.cons .nil)))))))))
      refine sd_seq (sd_app (p := pf) rfl npf.o (by rw [List.length_map]; omega) (hne_of (And.intro nef trivial)) ?_)
      walk_at "eds"
      rcases hr with ⟨d, rfl, hd⟩ | rfl
      · obtain ⟨w, r, e, hw, hg⟩ := dd_word d
        have e' : (Rw.deed d).e = .tuple (.str w :: r) := e
        have hrd : RwOk h (.deed d) := hd
        rw [e']
        refine rd_ixT (i := 0) rfl ?_
        rw [← e']
        refine ed_str (rd_ne (shp_str hw).ok (shp_str (by decide +kernel)).ok ⟨_, rfl, ?_⟩)
        rw [eqv_str, decide_eq_false hg]
        refine if_t rfl ?_
        walk_at "eds"
        refine ⟨h, st, d, rfl, hh, hst, hd, fun b hb _ => ?_⟩
        walk_at "eds"
        refine if_b (fun eb => ?_) fun _ => ?_
        · walk_at "eds"
          refine ⟨h, st, d, rfl, hh, hst, hd, hb eb, fun s' hs' _ => ?_⟩
          walk_at "eds"
          exact fin s' (.deed d) [_, _, _, _, _, _, _] rfl hs' hrd
        · walk_at "eds"
          exact fin st (.deed d) [_, _, _, _, _, _, _] rfl hst hrd
      · have hrd : RwOk h (.gap []) := ⟨(fun x hx => by cases hx), (fun m i j hi => by simp at hi), by decide⟩
        dsimp only [Rw.e]
        walk_at "eds"
        exact fin st (.gap []) [_, _, _, _, _, _, _] rfl hst hrd
    · walk_at "eds"
      refine sd_app (p := pf) rfl npf.o (by rw [List.length_map]; omega) (hne_of (And.intro nef trivial)) ?_
      walk_at "eds"
      refine ⟨hA, hL, h, st, rfl, sw, hh, hst, fun r hr _ => ⟨_, rfl, ?_⟩⟩
      exact fin st r [_, _, _, _, _, _, _] rfl hst hr
  · subst eΓ
    walk_at "eds"
    exact ⟨k pf rs (by omega) hok, fun _ _ z => by cases z; exact npf.o⟩
end
end Q47
set_option maxHeartbeats 4000000
/-! ### enumerate(t), t a tuple -/
namespace PySem
open Sem (wp)
theorem meets_enumT {v : Value} {ob : Obj} {G : Heap → Prop} (bg : Begins v ob G) : Meets (Builtin.«enumerate.__new__» ⟨[.type "enumerate", v], []⟩)
    (fun _ R s => G s.heap ∧ R (.ok (.ret (.ref (s.heap.push ob).objs.size))) { s with heap := (s.heap.push ob).push { cls := .type "enumerate", data := .fields #[.none, .bool false, .ref s.heap.objs.size, rawInt 0, .none, .none] } }) :=
  .of_wp fun prog w A R sh hh => by
    obtain ⟨hp, gs, dr, tk, os⟩ := sh
    obtain ⟨g1, hq⟩ := hh
    have su := sub_enumerate
    have step : ∀ {A' : Around} {E : Value → Shared → Prop} {Q : Value → Shared → Prop}, Q (.ref hp.objs.size) ⟨hp.push ob, gs, dr, tk, os⟩ → wpAny (model prog w) A' (pyIter v) Q E ⟨hp, gs, dr, tk, os⟩ := fun q => bg.iter prog w _ _ ⟨hp, gs, dr, tk, os⟩ _ g1 q
    wp_walk using step
    refine wpAny_stack_any fun st => wpAny_pure ?_
    split
    · rename_i c _ _ _ _ _
      cases (c == Value.type "enumerate") <;> (wp_walk using step; exact ⟨_, rfl, hq⟩)
    · wp_walk using step
      exact ⟨_, rfl, hq⟩
theorem call_enumT {prog : Program} {w : World} {A : Around} {E : Value → Shared → Prop} {s : Shared} {v : Value} {ob : Obj} {G : Heap → Prop} {Q : Value → Shared → Prop} (bg : Begins v ob G) (g1 : G s.heap)
    (hq : ∀ h', IsEnum h' (s.heap.objs.size + 1) s.heap.objs.size 0 .none → h'.get? s.heap.objs.size = some ob → (∀ b o, s.heap.get? b = some o → h'.get? b = some o) → Q (.ref (s.heap.objs.size + 1)) { s with heap := h' }) :
    wpAny (model prog w) A (call (.type "enumerate") [v]) Q E s := by
  refine callType_new F.called_enumerate (by decide) (F.typeCall_enumerate_1 _) (F.newCall_enumerate_1 _) (fun obj => F.args_object_init_2 obj _) F.entry_enumerate_new (meets_enumT bg) ⟨g1, ?_⟩
  have sz : (s.heap.push ob).objs.size = s.heap.objs.size + 1 := Heap.size_push ..
  show _ ∧ _
  rw [sz]
  have en : IsEnum ((s.heap.push ob).push { cls := .type "enumerate", data := .fields #[.none, .bool false, .ref s.heap.objs.size, rawInt 0, .none, .none] }) (s.heap.objs.size + 1) s.heap.objs.size 0 .none := by
    have q := Heap.get?_push_size (s.heap.push ob) (o := { cls := .type "enumerate", data := .fields #[.none, .bool false, .ref s.heap.objs.size, rawInt 0, .none, .none] }) rfl
    rw [sz] at q
    exact q
  exact ⟨⟨_, en, rfl⟩, hq _ en (Heap.get?_push_of_some _ (Heap.get?_push_size _ bg.free)) fun b o x => Heap.get?_push_of_some _ (Heap.get?_push_of_some _ x)⟩
end PySem
namespace Q47
open PySem L2 PySem.Spec PyProof.Rows
open PySem.W (Frag)
/-- the tuple at a, each item in a new pair -/
def ItT (K : Frag) (a : Addr) : L2.It :=
  ⟨fun i H => ∃ (xs : List V) (x : V), SqT K H a xs ∧ xs[i]? = some x, fun i H v H' => ∃ T x, v = .ref T ∧ H T = none ∧ H' = upd H T (.tup [.int (i : Nat), x]) ∧ ∀ xs, SqT K H a xs → xs[i]? = some x, fun i H => ∃ xs : List V, SqT K H a xs ∧ xs.length ≤ i⟩
theorem turn_enumT {P : Program} {w : World} {K : Frag} {elts : List Expr} {kk : Nat} {tpos : Pos} (a e it : Addr) :
    Turn P w K (.Tuple elts kk tpos) (ItT K a) [e, it] e (fun i h => (∃ old, IsEnum h e it ((i : Nat) : Int) old) ∧ h.IsTupleIter it a i ∧ e ≠ it) where
  mem := by simp
  obj := fun i h st b hb => by
    obtain ⟨⟨old, ee⟩, ⟨o, ho, hc, hd⟩, _⟩ := st
    rcases (by simpa using hb : b = e ∨ b = it) with rfl | rfl
    · exact ⟨_, ee, fun v q => nomatch q⟩
    · exact ⟨o, ho, fun v q => by rw [hd] at q; cases q⟩
  keep := fun i h h' st k => let ⟨⟨old, ee⟩, ti, ne⟩ := st; ⟨⟨old, k e (by simp) _ ee⟩, ti.at fun o q => k it (by simp) o q, ne⟩
  item := by
    intro X hP hw hK hc i pins s σ H E I hf st hg
    subst hP hw hK
    obtain ⟨⟨old, ee⟩, ti, ne⟩ := st
    obtain ⟨xs, x, hq, hx⟩ := hg
    obtain ⟨its, rv, p, hz⟩ := I.tuple hq
    obtain ⟨u, hu, ru⟩ := rv.get hx
    have el : e < s.heap.objs.size := Heap.lt_size ee
    have il : it < s.heap.objs.size := by obtain ⟨_, q, _⟩ := ti; exact Heap.lt_size q
    have al : a ≠ it := fun z => by
      obtain ⟨o, q1, q2, _⟩ := ti
      obtain ⟨o', r1, r2, _⟩ := p
      rw [z, q1] at r1
      cases r1
      rw [q2] at r2
      exact absurd (Value.type.inj r2) (by decide)
    have ae : e ≠ a := fun z => by
      obtain ⟨o', r1, r2, _⟩ := p
      rw [← z, ee] at r1
      cases r1
      exact absurd (Value.type.inj r2) (by decide)
    have hi : i < its.toArray.size := by
      have := (List.getElem?_eq_some_iff.mp hu).1
      simpa using this
    refine wpAny_pyNext_enum_itemD (Draws.tuple (A := X.A.in1) (I.ok.hd hc) it a al its.toArray) ee ⟨ti, p⟩ hi ne (by simp [ne, ae]) fun y h' tk hy ho st' hT hsz hk => ?_
    have ey : y = u := by
      have q : its.toArray[i]? = some y := hy
      have q2 : its.toArray[i]? = some u := by simpa using hu
      rw [q2] at q
      exact (Option.some.inj q).symm
    subst ey
    refine ⟨_, rfl, wpAny_letOwnedTupleGo_enum (s := { s with heap := h', toks := tk + 1 }) ho fun h'' ee' sb => ?_⟩
    have hT2 : h''.get? s.heap.objs.size = some { cls := .type "tuple", data := .seq #[.int i tk, y] } := (sb.2 _ (Nat.ne_of_gt el)).trans hT
    have new : ObjOk X.prog X.w (upd H s.heap.objs.size (.tup [.int (i : Nat), x])) h'' s.heap.objs.size (.tup [.int (i : Nat), x]) := ⟨by show 2 ≤ sizeLine; decide, [.int i tk, y], .cons ⟨_, rfl⟩ (.cons ru .nil), ⟨_, hT2, rfl, _, rfl⟩⟩
    have I1 : Inv X pins σ (upd H s.heap.objs.size (.tup [.int (i : Nat), x])) { s with heap := h'', toks := tk + 1 } :=
      I.turnedNew (ch := [e, it]) (fun b ob hb q => (sb.2 b (fun z => hb (by simp [z]))).trans (hk b ob (fun z => hb (by simp [z])) (fun z => hb (by simp [z])) q)) hf (Nat.le_refl _) new
    refine ⟨.ref s.heap.objs.size, _, I1, rfl, ⟨_, x, rfl, I.hok.fresh (Nat.le_refl _), rfl, fun ys hy => by rw [I.tuple_inj hy hq]; exact hx⟩, ⟨⟨y, ?_⟩, st'.1.at fun o q => (sb.2 it (Ne.symm ne)).trans q, ne⟩, fun b hb => ?_⟩
    · rw [show ((i + 1 : Nat) : Int) = (i : Int) + 1 by omega]
      exact ee'
    · have hb' : b < s.heap.objs.size := by
        rcases (by simpa using hb : b = e ∨ b = it) with rfl | rfl
        · exact el
        · exact il
      rw [upd_ne (Nat.ne_of_lt hb')]
      exact (hf b hb).1
  done := by
    intro X hP hw hK hc i pins s σ H E I hf st hg
    subst hP hw hK
    obtain ⟨⟨old, ee⟩, ti, ne⟩ := st
    obtain ⟨xs, hq, hx⟩ := hg
    obtain ⟨its, rv, p, hz⟩ := I.tuple hq
    obtain ⟨f0, f1, f2, f3, f4, f5⟩ := hf it (by simp)
    have hl := rv.length
    have none_ : its.toArray[i]? = none := by simp; omega
    have D : Draws X.prog X.w X.A.in1 it [it, a] i (fun _ _ => False) (fun j h => j = i ∧ h.IsTupleIter it a i ∧ h.IsTuple a its.toArray) :=
      { live := fun _ _ q => let ⟨o, ho, _⟩ := q.2.1; ⟨o, ho⟩
        frame := fun _ _ _ q hk => ⟨q.1, q.2.1.at fun o e => hk it (by simp) o e, q.2.2.at fun o e => hk a (by simp) o e⟩
        item := fun j s Q E hj q _ => absurd q.1 (Nat.ne_of_lt hj)
        done := fun s Q E q hE => wpAny_nextOf_tuple_end (I.ok.hd hc) q.2.1 q.2.2 none_ hE }
    exact wpAny_pyNext_enum_endD D ee ⟨rfl, ti, p⟩ fun h' eb => ⟨rfl, I.turned (t' := s.toks) (fun b o hb q => eb b o hb q) f0 f1 f3 f4 f5⟩
  self := fun A i s Q E st h => let ⟨⟨_, ee⟩, _⟩ := st; wpAny_pyIter_enum ee h
def iEnumT (K : Frag) (ta : TA) : TI := fun σ H R => ta σ H fun vs H1 => ∃ a xs, vs = [.ref a] ∧ SqT K H1 a xs ∧ R (ItT K a) H1
theorem pi_enumT {X : Cx} {e : Expr} {ta : TA} {p pos tpos : Pos} {elts : List Expr} {kk : Nat} (hg : Gl X "enumerate") (hm : X.mg "enumerate" = none) (ha : PA X [e] ta) (hs : starEach [e] X.env = [(false, eval e X.env)] := by rfl) :
    PI X (.Tuple elts kk tpos) (.Call (.Name "enumerate" p) [e] [] pos) (iEnumT X.K ta) := by
  refine ⟨fun pins s σ H R I h => ?_⟩
  refine Call_ (ld_blt I hg hm boot_enumerate (PyProof.Rows.callWith_type1 (thn (ha.run pos pins s σ H _ I h) fun us s1 ⟨vs, H1, I1, r1, q1⟩ => ?_) hs rfl))
  obtain ⟨a, xs, ex, hq, q⟩ := q1
  subst ex
  cases r1 with
  | cons r rr =>
    cases rr
    cases r
    obtain ⟨its, rv, p', hz⟩ := I1.tuple hq
    refine call_enumT (begins_tuple a its.toArray) p' fun h' he hit hk => wpAny_pyIter_enum he ?_
    have I2 : Inv X pins σ H1 { s1 with heap := h' } := I1.kept (t' := s1.toks) hk
    refine ⟨s1.heap.objs.size + 1, [s1.heap.objs.size + 1, s1.heap.objs.size], _, _, H1, rfl, I2, turn_enumT a (s1.heap.objs.size + 1) s1.heap.objs.size, ⟨⟨.none, he⟩, ⟨_, hit, rfl, rfl⟩, Nat.succ_ne_self _⟩, fun b hb => ?_, q⟩
    have hle : s1.heap.objs.size ≤ b := by
      rcases (by simpa using hb : b = s1.heap.objs.size + 1 ∨ b = s1.heap.objs.size) with z | z
      · rw [z]; exact Nat.le_add_right _ _
      · rw [z]; exact Nat.le_refl _
    exact I1.fpOk hle (I1.hok.fresh hle)
theorem pi_enumTK (K : Frag) {X : Cx} {e : Expr} {ta : TA} {p pos tpos : Pos} {elts : List Expr} {kk : Nat} (hg : Gl X "enumerate") (hm : X.mg "enumerate" = none) (ha : PA X [e] ta) (hK : X.K = K := by rfl) (hs : starEach [e] X.env = [(false, eval e X.env)] := by rfl) :
    PI X (.Tuple elts kk tpos) (.Call (.Name "enumerate" p) [e] [] pos) (iEnumT K ta) := hK ▸ pi_enumT hg hm ha hs
theorem pi_enumK (K : Frag) {X : Cx} {e : Expr} {ta : TA} {p pos tpos : Pos} {elts : List Expr} {kk : Nat} (hg : Gl X "enumerate") (hm : X.mg "enumerate" = none) (ha : PA X [e] ta) (hK : X.K = K := by rfl) (hs : starEach [e] X.env = [(false, eval e X.env)] := by rfl) :
    PI X (.Tuple elts kk tpos) (.Call (.Name "enumerate" p) [e] [] pos) (iEnum K ta) := hK ▸ pi_enum hg hm ha hs
end Q47
set_option maxHeartbeats 4000000
/-! ### rules: enumerate, chains, isinstance, objects, slices, order -/
namespace Q47
open PySem L2
open PySem.W (Frag)
section
variable {K : Frag} {W : Wd} {Γ : Gm} {κ : A → Prop} {N : Gm → Prop} {R : A → Prop} {te ta tb tc tl : TE} {t : TS} {g : TG}
theorem sd_forET {ts : TA} {ds : List PyData} (I : Nat → Gm → Prop) (h : EDA K W ts Γ fun as => as = [.d (.tuple ds)]) (hI : I 0 Γ)
    (hb : ∀ i d Γ', ds[i]? = some d → I i Γ' → GD K W g (.d (.tuple [.int (i : Int), d])) Γ' fun Γ2 => SD K W t Γ2 (I (i + 1)) R) (hN : ∀ Γ', I ds.length Γ' → N Γ') : SD K W (tFor (iEnumT K ts) g t) Γ N R := fun σ H D e s hn hr => by
  refine h σ H _ e s fun vs H1 as r1 s1 ha k => ?_
  subst k
  cases ha with
  | cons ha hx =>
    cases hx
    cases ha with
    | @tup a us _ hq h2 =>
      have hvl := h2.length
      refine ⟨a, us, rfl, hq, fun i m σ' H' => m = ds.length - i ∧ i ≤ ds.length ∧ ∃ Γ', Rs W H H' ∧ W.S H' ∧ En K W H' σ' Γ' ∧ RtA K H' us ds ∧ SqT K H' a us ∧ I i Γ', ⟨ds.length, rfl, Nat.zero_le _, Γ, r1.rs s, s1, e.keep s r1, h2, hq, hI⟩, ?_⟩
      rintro i m σ' H' ⟨rfl, hi, Γ', rs, s', e', r', q', I'⟩
      by_cases hlt : i < ds.length
      · obtain ⟨x, hx, hxd⟩ := r'.get (List.getElem?_eq_getElem hlt)
        refine .inr ⟨⟨us, x, q', hx⟩, fun σ3 H3 => ∃ Γ', Rs W H H3 ∧ W.S H3 ∧ En K W H3 σ3 Γ' ∧ RtA K H3 us ds ∧ SqT K H3 a us ∧ I (i + 1) Γ', fun σ3 H3 q3 => ⟨ds.length - (i + 1), by omega, rfl, hlt, q3⟩, fun y H4 hy => ?_⟩
        obtain ⟨T, x', rfl, hT, rfl, hy⟩ := hy
        have ex := Option.some.inj ((hy us q').symm.trans hx)
        subst ex
        have sm := same_new (o := HO.tup [.int (i : Nat), x']) hT
        have ro := Ro.of_same (W := W) sm
        refine hb i _ Γ' (List.getElem?_eq_getElem hlt) I' (.ref T) σ' _ _ (e'.keep s' ro) (Wd.same s' sm) (Rt.tup (SqT.of upd_same) (.cons (.int _) (.cons (hxd.keep (Kp.of_same sm)) .nil))) fun σ2 Γ2 e2 k2 => ?_
        exact k2 σ2 _ _ e2 (Wd.same s' sm) (fun σ3 H3 Γ3 r3 s3 e3 k3 => ⟨Γ3, (rs.trans (ro.rs s')).trans r3, s3, e3, (r'.keep (Kp.of_same sm)).keep r3.kp, r3.kp.sqT ((Kp.of_same sm).sqT q'), k3⟩) fun v H3 b r3 s3 hb k3 => hr v H3 b ((rs.trans (ro.rs s')).trans r3) s3 hb k3
      · have ei : i = ds.length := by omega
        subst ei
        exact .inl ⟨⟨us, q', by omega⟩, hn σ' H' Γ' rs s' e' (hN Γ' I')⟩
theorem sd_forEL {ts : TA} {p : Addr} {ds : List PyData} (I : Nat → Gm → Prop) (h : EDA K W ts Γ fun as => as = [.o p ds]) (hI : I 0 Γ) (hs : ∀ i Γ', I i Γ' → ∃ j : Nat, Γ'[j]? = some (some (.o p ds)))
    (hb : ∀ i d Γ', ds[i]? = some d → I i Γ' → GD K W g (.d (.tuple [.int (i : Int), d])) Γ' fun Γ2 => SD K W t Γ2 (I (i + 1)) R) (hN : ∀ Γ', I ds.length Γ' → N Γ') : SD K W (tFor (iEnum K ts) g t) Γ N R := fun σ H D e s hn hr => by
  refine h σ H _ e s fun vs H1 as r1 s1 ha k => ?_
  subst k
  cases ha with
  | cons ha hx =>
    cases hx
    obtain ⟨rfl, hm, us, h1, h2⟩ := ha
    refine ⟨p, us, rfl, SqL.of h1, fun i m σ' H' => m = ds.length - i ∧ i ≤ ds.length ∧ ∃ Γ' us, Rs W H H' ∧ W.S H' ∧ En K W H' σ' Γ' ∧ RtA K H' us ds ∧ H' p = some (.lst us) ∧ I i Γ', ⟨ds.length, rfl, Nat.zero_le _, Γ, us, r1.rs s, s1, e.keep s r1, h2, h1, hI⟩, ?_⟩
    rintro i m σ' H' ⟨rfl, hi, Γ', us', rs, s', e', r', q', I'⟩
    have hvl := r'.length
    by_cases hlt : i < ds.length
    · obtain ⟨x, hx, hxd⟩ := r'.get (List.getElem?_eq_getElem hlt)
      refine .inr ⟨⟨us', x, SqL.of q', hx⟩, fun σ3 H3 => ∃ Γ' us, Rs W H H3 ∧ W.S H3 ∧ En K W H3 σ3 Γ' ∧ RtA K H3 us ds ∧ H3 p = some (.lst us) ∧ I (i + 1) Γ', fun σ3 H3 q3 => ⟨ds.length - (i + 1), by omega, rfl, hlt, q3⟩, fun y H4 hy => ?_⟩
      obtain ⟨T, x', rfl, hT, rfl, hy⟩ := hy
      have ex := Option.some.inj ((hy us' (SqL.of q')).symm.trans hx)
      subst ex
      have sm := same_new (o := HO.tup [.int (i : Nat), x']) hT
      have ro := Ro.of_same (W := W) sm
      refine hb i _ Γ' (List.getElem?_eq_getElem hlt) I' (.ref T) σ' _ _ (e'.keep s' ro) (Wd.same s' sm) (Rt.tup (SqT.of upd_same) (.cons (.int _) (.cons (hxd.keep (Kp.of_same sm)) .nil))) fun σ2 Γ2 e2 k2 => ?_
      have post : ∀ σ3 H3 Γ3, Rs W _ H3 → W.S H3 → En K W H3 σ3 Γ3 → I (i + 1) Γ3 → ∃ Γ' us, Rs W H H3 ∧ W.S H3 ∧ En K W H3 σ3 Γ' ∧ RtA K H3 us ds ∧ H3 p = some (.lst us) ∧ I (i + 1) Γ' := fun σ3 H3 Γ3 r3 s3 e3 k3 => by
        obtain ⟨j, hj⟩ := hs _ _ k3
        obtain ⟨v, _, rfl, _, us3, q3, q4⟩ := e3.at_ j _ hj
        exact ⟨Γ3, us3, (rs.trans (ro.rs s')).trans r3, s3, e3, q4, q3, k3⟩
      exact k2 σ2 _ _ e2 (Wd.same s' sm) (fun σ3 H3 Γ3 r3 s3 e3 k3 => post σ3 H3 Γ3 r3 s3 e3 k3) fun v H3 b r3 s3 hb k3 => hr v H3 b ((rs.trans (ro.rs s')).trans r3) s3 hb k3
    · have ei : i = ds.length := by omega
      subst ei
      exact .inl ⟨⟨us', SqL.of q', by omega⟩, hn σ' H' Γ' rs s' e' (hN Γ' I')⟩
theorem ed_chain {r r' : R2} (h : ED K W ta Γ fun x => ED K W tb Γ fun y => RD K W Γ r x y fun z => ∃ k, z = .d (.bool k) ∧ if k = true then ED K W tc Γ fun u => RD K W Γ r' y u κ else κ (.d (.bool false))) : ED K W (tChain r r' ta tb tc) Γ κ := fun σ H Q e s q =>
  h σ H _ e s fun v H1 a r1 s1 ha k1 => k1 σ H1 _ (e.keep s r1) s1 fun u H2 b r2 s2 hb k2 => k2 σ v u H2 _ (e.keep s (r1.trans r2)) (ha.keep s1 r2) hb s2 fun z H3 c r3 s3 hc k3 => by
    obtain ⟨k, rfl, k3⟩ := k3
    cases hc
    refine ⟨k, rfl, ?_⟩
    have r13 := (r1.trans r2).trans r3
    cases k with
    | true =>
      show tc σ H3 _
      have k' : ED K W tc Γ fun u => RD K W Γ r' b u κ := k3
      exact k' σ H3 _ (e.keep s r13) s3 fun w H4 d r4 s4 hd k4 => k4 σ u w H4 Q (e.keep s (r13.trans r4)) (hb.keep s2 (r3.trans r4)) hd s4 fun z H5 c r5 s5 hc k5 => q z H5 c ((r13.trans r4).trans r5) s5 hc k5
    | false =>
      show Q (.bl false) H3
      exact q _ H3 (.d _) r13 s3 (Rt.bl false) k3
/-! isinstance -/
def tyN : PyData → String
  | .none => "NoneType"
  | .bool _ => "bool"
  | .int _ => "int"
  | .str _ => "str"
  | .tuple _ => "tuple"
  | _ => "list"
def tyA : A → Option String
  | .d d => some (tyN d)
  | .o _ _ => some "list"
  | _ => none
theorem ty_of {H : Hp} {v : V} {d : PyData} (h : Rt K H v d) : TyX K H v (.type (tyN d)) := by
  cases h with
  | non => exact .base .non
  | bl b => exact .base (.bl b)
  | int i => exact .base (.int i)
  | str x => exact .base (.str x)
  | tup hq _ =>
    rcases hq with (h | ⟨o, h⟩) | ⟨o, its, n, h1, h2, _⟩
    · exact .base (.tup h)
    · exact .fTuple h
    · exact .kTuple h1 h2
theorem ty_ofA {H : Hp} {v : V} {a : A} {n : String} (h : Has K W H v a) (e : tyA a = some n) : TyX K H v (.type n) := by
  cases a with
  | d d =>
    cases e
    exact ty_of h
  | o p ds =>
    cases e
    obtain ⟨rfl, _, us, h1, _⟩ := h
    exact .base (.lst h1)
  | v x => cases e
  | p P => cases e
theorem cd_isi {x : A} {n T : String} {b : Bool} (hn : tyA x = some n) (hb : kitB n T = some b) (k : κ (.d (.bool b))) : CD K W Γ (rIsi K) [x, .v (.ty T)] κ := fun σ vs H Q e hv s q => by
  cases hv with
  | @cons v _ _ _ hv hr =>
    cases hr with
    | cons hc hn2 =>
      cases hn2
      cases hc
      exact ⟨v, .ty T, _, _, b, rfl, .ty T, ty_ofA hv hn, kit_ty hb, q _ H (.d _) Ro.refl s (Rt.bl b) k⟩
theorem cd_isiC {P : V → Hp → Prop} {C : Addr} (ic : C8.InsC K C) (hP : ∀ v H, P v H → ∃ a dx fs, v = .ref a ∧ H a = some (.ins C dx fs)) (k : κ (.d (.bool true))) : CD K W Γ (rIsi K) [.p P, .v (.ref C)] κ := fun σ vs H Q e hv s q => by
  cases hv with
  | @cons v _ _ _ hv hr =>
    cases hr with
    | cons hc hn2 =>
      cases hn2
      cases hc
      obtain ⟨a, dx, fs, rfl, ha⟩ := hP v H (hv H (Kp.refl H))
      exact ⟨.ref a, .ref C, _, _, true, rfl, .own C, .base (.ins ha ic.cl ic.ha ic.hn ic.htk ic.hm), ic.me, q _ H (.d _) Ro.refl s (Rt.bl true) k⟩
/-- isinstance(x, (T1, T2)) -/
theorem ed_isi2 {T1 T2 : String} (h : ED K W te Γ fun a => ∃ n b1 b2, tyA a = some n ∧ kitB n T1 = some b1 ∧ kitB n T2 = some b2 ∧ κ (.d (.bool (b1 || b2)))) :
    ED K W (tCB (rIsiT K) (tCons te (tCons (tTup (tCons (tC (.ty T1)) (tCons (tC (.ty T2)) tNil))) tNil))) Γ κ := fun σ H Q e s q =>
  h σ H _ e s fun v H1 a r1 s1 ha k => by
    obtain ⟨n, b1, b2, hn, h1, h2, k⟩ := k
    refine ⟨by show 2 ≤ sizeLine; decide, fun p hp => ?_⟩
    have sm := same_new (o := HO.tup [.ty T1, .ty T2]) hp
    refine ⟨v, p, [.ty T1, .ty T2], _, [.type T1, .type T2], b1 || b2, rfl, upd_same, .cons (.ty T1) (.cons (.ty T2) .nil), ty_ofA (ha.keep s1 (Ro.of_same sm)) hn, ?_, q _ _ (.d _) (r1.trans (Ro.of_same sm)) (Wd.same s1 sm) (Rt.bl _) k⟩
    refine kitAny_cons (kit_ty h1) (fun e1 => ?_) (fun e1 => by rw [e1]; rfl)
    subst e1
    refine kitAny_cons (kit_ty h2) (fun e2 => ?_) (fun e2 => by rw [e2]; rfl)
    subst e2
    exact kitAny_nil
/-! objects -/
theorem ed_prop {C : Addr} {pre : Wd → List A → (A → Prop) → Prop} (h : ED K W ta Γ fun a => ∃ P, a = .p P ∧ (∀ v H, P v H → ∃ b dx fs, v = .ref b ∧ H b = some (.ins C dx fs)) ∧ pre W [a] fun x => NewA W Γ x → κ x) : ED K W (tProp C (spD K pre) [] E0 ta) Γ κ := fun σ H Q e s q =>
  h σ H _ e s fun v H1 a r1 s1 ha k => by
    obtain ⟨P, rfl, hP, k⟩ := k
    obtain ⟨b, dx, fs, rfl, hb⟩ := hP v H1 (ha H1 (Kp.refl H1))
    refine ⟨b, dx, fs, rfl, hb, W, _, _, s1, .cons ha .nil, k, fun v H2 a r2 s2 ha2 fr k2 => q v H2 a (r1.trans r2) s2 ha2 (k2 ?_)⟩
    cases a with
    | o p ds => exact new_of e s r1 s1 (fr p ds rfl)
    | _ => exact trivial
theorem ed_meth {C : Addr} {m : Str} {ts : TA} {pre : Wd → List A → (A → Prop) → Prop} (h : ED K W ta Γ fun a => ∃ P, a = .p P ∧ (∀ v H, P v H → ∃ b dx fs, v = .ref b ∧ H b = some (.ins C dx fs) ∧ fs.lookup m = none) ∧ EDA K W ts Γ fun as => pre W (a :: as) fun x => NewA W Γ x → κ x) :
    ED K W (tMeth C m (spD K pre) [] E0 ta ts) Γ κ := fun σ H Q e s q =>
  h σ H _ e s fun v H1 a r1 s1 ha k => by
    obtain ⟨P, rfl, hP, k⟩ := k
    obtain ⟨b, dx, fs, rfl, hb, hl⟩ := hP v H1 (ha H1 (Kp.refl H1))
    refine ⟨b, dx, fs, rfl, hb, hl, k σ H1 _ (e.keep s r1) s1 fun vs H2 as r2 s2 has k2 => ?_⟩
    refine ⟨W, _, _, s2, .cons (ha.keep s1 r2) (by rw [List.append_nil]; exact has), k2, fun v H3 a r3 s3 ha3 fr k3 => q v H3 a ((r1.trans r2).trans r3) s3 ha3 (k3 ?_)⟩
    cases a with
    | o p ds => exact new_of e s (r1.trans r2) s2 (fr p ds rfl)
    | _ => exact trivial
theorem ed_fld {f : Str} (h : ED K W ta Γ fun a => ∃ P, a = .p P ∧ ∃ b, (∀ v H, (∀ H', Kp H H' → P v H') → ∃ ad C dx fs u, v = .ref ad ∧ H ad = some (.ins C dx fs) ∧ Cls K C ∧ NoAttr K C f ∧ fs.lookup f = some u ∧ Has K W H u b) ∧ κ b) : ED K W (tFld K ta f) Γ κ := fun σ H Q e s q =>
  h σ H _ e s fun v H1 a r1 s1 ha k => by
    obtain ⟨P, rfl, b, hP, k⟩ := k
    obtain ⟨ad, C, dx, fs, u, rfl, h1, h2, h3, h4, h5⟩ := hP v H1 ha
    exact ⟨ad, C, dx, fs, u, rfl, h1, h2, h3, h4, q u H1 b r1 s1 h5 k⟩
/-! slices -/
def rSlAK (K : Frag) : V → Option Int → Option Int → Hp → VK → Prop := rSlA K
theorem sl_tupAK (K : Frag) {X : Cx} (hK : X.K = K := by rfl) : SlR X (rSlAK K) := hK ▸ sl_tupA
def cutD (ds : List PyData) (lo hi : Option Int) : List PyData := (ds.drop (HT.sIx ds.length 0 lo)).take (HT.sIx ds.length ds.length hi - HT.sIx ds.length 0 lo)
theorem slA {σ : St} {H : Hp} {v : V} {Q : VK} {ds : List PyData} {lo hi : Option Int} (s : W.S H) (hv : Rt K H v (.tuple ds)) (q : ∀ v H' a, Ro W H H' → W.S H' → Has K W H' v a → κ a → Q v H') (k : κ (.d (.tuple (cutD ds lo hi)))) : rSlAK K v lo hi H Q := by
  cases hv with
  | @tup a us _ hq r =>
    have hl := r.length
    refine ⟨a, us, rfl, hq, fun z => ?_, fun _ p hp => ?_⟩
    · refine q _ H (.d (.tuple (cutD ds lo hi))) Ro.refl s ?_ k
      have e : cutD ds lo hi = ds := by
        unfold cutD
        rw [← hl, z.1, z.2, List.drop_zero, Nat.sub_zero, hl, List.take_length]
      rw [e]
      exact Rt.tup hq r
    · have sm := same_new (o := HO.tup (cutV us lo hi)) hp
      refine q _ _ (.d (.tuple (cutD ds lo hi))) (Ro.of_same sm) (Wd.same s sm) (Rt.tup (SqT.of upd_same) ?_) k
      unfold cutV cutD
      rw [← hl]
      exact ((r.drop _).take _).keep (Kp.of_same sm)
theorem ed_slHi {ts : TE} (h : ED K W te Γ fun a => ∃ ds, a = .d (.tuple ds) ∧ ED K W ts Γ fun b => ∃ i, b = .d (.int i) ∧ κ (.d (.tuple (cutD ds none (some i))))) : ED K W (tSl (rSlAK K) te tNoPart (tPart ts)) Γ κ := fun σ H Q e s q =>
  h σ H _ e s fun v H1 a r1 s1 ha k => by
    obtain ⟨ds, rfl, k⟩ := k
    refine k σ H1 _ (e.keep s r1) s1 fun u H2 b r2 s2 hb k2 => ?_
    obtain ⟨i, rfl, k2⟩ := k2
    cases hb
    exact ⟨i, rfl, slA (σ := σ) s2 (ha.keep s1 r2) (fun v H' a r s' hh kk => q v H' a ((r1.trans r2).trans r) s' hh kk) k2⟩
theorem ed_slLo {ts : TE} (h : ED K W te Γ fun a => ∃ ds, a = .d (.tuple ds) ∧ ED K W ts Γ fun b => ∃ i, b = .d (.int i) ∧ κ (.d (.tuple (cutD ds (some i) none)))) : ED K W (tSl (rSlAK K) te (tPart ts) tNoPart) Γ κ := fun σ H Q e s q =>
  h σ H _ e s fun v H1 a r1 s1 ha k => by
    obtain ⟨ds, rfl, k⟩ := k
    refine k σ H1 _ (e.keep s r1) s1 fun u H2 b r2 s2 hb k2 => ?_
    obtain ⟨i, rfl, k2⟩ := k2
    cases hb
    exact ⟨i, rfl, slA (σ := σ) s2 (ha.keep s1 r2) (fun v H' a r s' hh kk => q v H' a ((r1.trans r2).trans r) s' hh kk) k2⟩
end
/-! order -/
def rLeD (K : Frag) : R2 := fun x y H Q => ∃ d e, Dp K H x d ∧ Dp K H y e ∧ PySem.W.alike d e = true ∧ d ≠ .none ∧ d.depth ≤ 60 ∧ Q (.bl (!PySem.W.dataLt e d)) H
theorem op_leD {X : Cx} (hu : X.A.units + 64 < cLine) : OpR X (compareOp .LtE) (rLeD X.K) := by
  intro pins s σ H x y v u Q I rx ry h
  obtain ⟨d, ds, hd, he, al, nn, dp, q⟩ := h
  obtain ⟨as, r1⟩ := Dp.reads I d x v hd rx
  obtain ⟨bs, r2⟩ := Dp.reads I ds y u he ry
  have m := Nat.min_le_left d.depth ds.depth
  exact PySem.W.rcLe_alike d ds X.A s v u as bs r1 r2 al nn (by omega) X.prog X.w X.xe _ ⟨.bl _, H, I, rfl, q⟩
theorem op_leDK (K : Frag) {X : Cx} (hu : X.A.units + 64 < cLine) (hK : X.K = K := by rfl) : OpR X (compareOp .LtE) (rLeD K) := hK ▸ op_leD hu
theorem rd_leD {K : Frag} {W : Wd} {Γ : Gm} {κ : A → Prop} {x y : PyData} (al : PySem.W.alike x y = true) (nn : x ≠ .none) (dp : x.depth ≤ 60) (k : κ (.d (.bool (!PySem.W.dataLt y x)))) : RD K W Γ (rLeD K) (.d x) (.d y) κ := fun σ v u H Q e hv hu s q =>
  ⟨x, y, hv.dp, hu.dp, al, nn, dp, q _ H (.d _) Ro.refl s (Rt.bl _) k⟩
end Q47
set_option maxHeartbeats 4000000
/-! ### houses -/
namespace Q47
open PySem L2
open PySem.W (Frag)
open PyProof.Rows (envOfC)
/-- what the further facts of the top are -/
structure Tx2 (w : World) (K : Frag) : Prop where
  ic_House : C8.InsC K (He.ga K "House")
  ic_Log : C8.InsC K (He.ga K "Log")
  ne_Log : PySem.W.findIn K (.ref (He.ga K "Log")) "__ne__" = some (some (.builtin "object.__ne__"))
def HouseAt (K : Frag) (h : Hs) (v : V) (H : Hp) : Prop := ∃ a dx v2 v3 v4, v = .ref a ∧ H a = some (.ins (He.ga K "House") dx [("hand_count", .int (h.hands : Int)), ("box_places", v2), ("thing_places", v3), ("seal_places", v4)]) ∧ Rt K H v2 (plsE h.boxes) ∧ Rt K H v3 (plsE h.things) ∧ Rt K H v4 (plsE h.seals)
theorem HouseAt.keep {K : Frag} {h : Hs} {v : V} {H H' : Hp} : HouseAt K h v H → Kp H H' → HouseAt K h v H'
  | ⟨a, dx, v2, v3, v4, e, h1, h2, h3, h4⟩, k => ⟨a, dx, v2, v3, v4, e, k _ _ trivial h1, h2.keep k, h3.keep k, h4.keep k⟩
/-- a property: its getter keeps its promise -/
def OkP (P : Program) (w : World) (K : Frag) (mg : Str → Option Value) (base : Heap) (k : Nat) (C : Addr) (f : Str) (sp : Sp) : Prop :=
  ∃ p g fd, PropOf K C f p g ∧ FnOk P w K mg base CX0 k g fd ["self"] sp ∧ Binds K fd ["self"] []
section
variable {X : Cx} {x : Str} {p pos : Pos} {e : Expr} {es : List Expr} {ta : TE} {t : TA} {k : Nat} {ps : List Str} {sp : Sp} {C : Addr} {f : Str}
theorem pe_ty (T : String) {x : Str} (hm : X.mg x = none) (hg : Gl X x := by rfl) (hv : bootBuiltins x = some (.type T) := by decide +kernel) (hn : x ≠ "__name__" := by decide) (hd : (x == ("__debug__" : Str)) = false := by decide) : PE X (.Name x p) (tC (.ty T)) := pe_bltn hg hm hv rfl hn hd
theorem pe_pr (F : OkP X.prog X.w X.K X.mg X.base k C f sp) (c : Cls X.K C) (hr : Room (k + 1) X.A) (he : PE X e ta) (hab : attributeBase e f X.env (eval e X.env) = eval e X.env := by rfl) : PE X (.Attribute e f pos) (tProp C sp [] E0 ta) :=
  let ⟨_, _, _, hp, F', b⟩ := F
  pe_prop he c hp F' hr b .nil pass0 hab
theorem pe_mkO {c : Str} (M : Mk X.K (He.ga X.K c) (He.fAd X.K (c, some "__init__"))) (F : Ok X.prog X.w X.K X.mg X.base k (c, some "__init__") ps sp) (hr : Room (k + 1) X.A) (hm : X.mg c = some (.ref (He.ga X.K c))) (ha : PA X (e :: es) t) (hg : Gl X c := by rfl)
    (hdb : (c == ("__debug__" : Str)) = false := by decide) (he : starEach (e :: es) X.env = (false, eval e X.env) :: starEach es X.env := by rfl) (hpl : (backTo pos (starEach es X.env)).any (·.1) = false := by rfl) : PE X (.Call (.Name c p) (e :: es) [] pos) (tMake (He.ga X.K c) sp [] E0 t) :=
  let ⟨_, F', b, _⟩ := F
  pe_make M F' hr hg hm b .nil pass0 ha hdb he hpl
end
section
variable {P : Program} {w : World} {K : Frag} {mg : Str → Option Value} {base : Heap} {qual f : Str} {params : Arguments} {body : List Stmt} {scope : Scope} {N : List Str} {k : Nat} {C : Addr}
theorem okP {pre : Wd → List A → (A → Prop) → Prop} (F : ∃ p g fd, PropOf K C f p g ∧ FunD K f qual params body scope [] [] g fd) (S : FnScope N ["self"] scope)
    (h : ∀ (kV doc pm : Value) (an : Option Addr) (cdv ct : Value) (us : List Value), us.length = 1 → bindArgs (PySem.W.fnOf f qual params body scope .none kV doc pm an cdv ct) ⟨us, []⟩ = pure ((["self"] : List Str).zip us))
    (hl : ∀ W as κ, pre W as κ → as.length = 1) (hp : ∀ W as κ H, pre W as κ → pre (W.at H) as κ)
    (hb : ∀ (g : Addr) (cdv : Value) (A : Around) (outer : List Env) (s : Shared) (H : Hp) (E : XK), Room k (A.deeper (envOfC qual scope s.heap.objs.size g cdv)) → ∀ W as κ, pre W as κ →
      ∃ t, PSs (cxOf CX0 P w K mg base N qual scope g cdv A outer s H E).nox body t ∧ SD K W t (startG N as) (fun _ => κ (.d .none)) (Out W κ)) : OkP P w K mg base (k + 1) C f (spD K pre) := by
  obtain ⟨p, g, fd, h1, F⟩ := F
  exact ⟨p, g, fd, h1, fnD F S hl hp (hb _), F.bindsN h⟩
end
section
variable {K : Frag} {mg : Str → Option Value} {W : Wd} {h : Hs}
abbrev FldOf (K : Frag) (W : Wd) (h : Hs) (f : Str) (b : A) : Prop := ∀ v H, (∀ H', Kp H H' → HouseAt K h v H') → ∃ ad C dx fs u, v = .ref ad ∧ H ad = some (.ins C dx fs) ∧ Cls K C ∧ NoAttr K C f ∧ fs.lookup f = some u ∧ Has K W H u b
theorem fldH1 (T : Tx K mg) : FldOf K W h "hand_count" (.d (.int (h.hands : Int))) := fun v H q => by
  obtain ⟨a, dx, v2, v3, v4, e, h1, h2, h3, h4⟩ := q H (Kp.refl H)
  exact ⟨a, _, dx, _, _, e, h1, T.c_House, T.n_House_hand_count, rfl, Rt.int _⟩
theorem fldH2 (T : Tx K mg) : FldOf K W h "box_places" (.d (plsE h.boxes)) := fun v H q => by
  obtain ⟨a, dx, v2, v3, v4, e, h1, h2, h3, h4⟩ := q H (Kp.refl H)
  exact ⟨a, _, dx, _, _, e, h1, T.c_House, T.n_House_box_places, rfl, h2⟩
theorem fldH3 (T : Tx K mg) : FldOf K W h "thing_places" (.d (plsE h.things)) := fun v H q => by
  obtain ⟨a, dx, v2, v3, v4, e, h1, h2, h3, h4⟩ := q H (Kp.refl H)
  exact ⟨a, _, dx, _, _, e, h1, T.c_House, T.n_House_thing_places, rfl, h3⟩
theorem fldH4 (T : Tx K mg) : FldOf K W h "seal_places" (.d (plsE h.seals)) := fun v H q => by
  obtain ⟨a, dx, v2, v3, v4, e, h1, h2, h3, h4⟩ := q H (Kp.refl H)
  exact ⟨a, _, dx, _, _, e, h1, T.c_House, T.n_House_seal_places, rfl, h4⟩
theorem insH : ∀ v H, HouseAt K h v H → ∃ b dx fs, v = .ref b ∧ H b = some (.ins (He.ga K "House") dx fs) := fun v H q => by
  obtain ⟨a, dx, v2, v3, v4, e, h1, h2, h3, h4⟩ := q
  exact ⟨a, dx, _, e, h1⟩
end
theorem kit_int_int : kitB "int" "int" = some true := by decide +kernel
theorem kit_int_bool : kitB "int" "bool" = some false := by decide +kernel
theorem kit_int_str : kitB "int" "str" = some false := by decide +kernel
theorem kit_int_tuple : kitB "int" "tuple" = some false := by decide +kernel
theorem kit_int_list : kitB "int" "list" = some false := by decide +kernel
theorem kit_int_dict : kitB "int" "dict" = some false := by decide +kernel
theorem kit_str_int : kitB "str" "int" = some false := by decide +kernel
theorem kit_str_bool : kitB "str" "bool" = some false := by decide +kernel
theorem kit_str_str : kitB "str" "str" = some true := by decide +kernel
theorem kit_str_tuple : kitB "str" "tuple" = some false := by decide +kernel
theorem kit_str_list : kitB "str" "list" = some false := by decide +kernel
theorem kit_str_dict : kitB "str" "dict" = some false := by decide +kernel
theorem kit_tuple_int : kitB "tuple" "int" = some false := by decide +kernel
theorem kit_tuple_bool : kitB "tuple" "bool" = some false := by decide +kernel
theorem kit_tuple_str : kitB "tuple" "str" = some false := by decide +kernel
theorem kit_tuple_tuple : kitB "tuple" "tuple" = some true := by decide +kernel
theorem kit_tuple_list : kitB "tuple" "list" = some false := by decide +kernel
theorem kit_tuple_dict : kitB "tuple" "dict" = some false := by decide +kernel
theorem kit_list_int : kitB "list" "int" = some false := by decide +kernel
theorem kit_list_bool : kitB "list" "bool" = some false := by decide +kernel
theorem kit_list_str : kitB "list" "str" = some false := by decide +kernel
theorem kit_list_tuple : kitB "list" "tuple" = some false := by decide +kernel
theorem kit_list_list : kitB "list" "list" = some true := by decide +kernel
theorem kit_list_dict : kitB "list" "dict" = some false := by decide +kernel
section
variable {K : Frag} {W : Wd} {Γ : Gm} {κ : A → Prop} {T : String} {b : Bool}
theorem ed_ty {T : String} (k : κ (.v (.ty T))) : ED K W (tC (.ty T)) Γ κ := ed_raw k
theorem rd_eqT {x y : Str} (k : κ (.d (.bool (decide (x = y))))) : RD K W Γ rEq (.d (.str x)) (.d (.str y)) κ := fun σ v u H Q e hv hu s q => by
  cases hv
  cases hu
  refine ⟨rfl, ?_⟩
  rw [show decide (V.str x = V.str y) = decide (x = y) by rw [Bool.eq_iff_iff]; simp]
  exact q _ H (.d _) Ro.refl s (Rt.bl _) k
theorem rd_neT {x y : Str} (k : κ (.d (.bool (!decide (x = y))))) : RD K W Γ rNe (.d (.str x)) (.d (.str y)) κ := fun σ v u H Q e hv hu s q => by
  cases hv
  cases hu
  refine ⟨rfl, ?_⟩
  rw [show decide (V.str x = V.str y) = decide (x = y) by rw [Bool.eq_iff_iff]; simp]
  exact q _ H (.d _) Ro.refl s (Rt.bl _) k
theorem eqv_self {n : Nat} {d : PyData} (h : Shp n d) : PyData.eqv d d = true := SeqAt.eqv_refl d h.1
theorem num_ok {n m : Nat} (h : n < m) : (decide ((0 : Int) ≤ (n : Int)) && decide ((n : Int) ≤ (m : Int) - 1)) = true := by
  rw [Bool.and_eq_true, decide_eq_true_eq, decide_eq_true_eq]
  omega
theorem cd_isiI {i : Int} (hb : kitB "int" T = some b) (k : κ (.d (.bool b))) : CD K W Γ (rIsi K) [.d (.int i), .v (.ty T)] κ := cd_isi rfl hb k
theorem cd_isiS {x : Str} (hb : kitB "str" T = some b) (k : κ (.d (.bool b))) : CD K W Γ (rIsi K) [.d (.str x), .v (.ty T)] κ := cd_isi rfl hb k
theorem cd_isiT {ds : List PyData} (hb : kitB "tuple" T = some b) (k : κ (.d (.bool b))) : CD K W Γ (rIsi K) [.d (.tuple ds), .v (.ty T)] κ := cd_isi rfl hb k
theorem cd_isiL {p : Addr} {ds : List PyData} (hb : kitB "list" T = some b) (k : κ (.d (.bool b))) : CD K W Γ (rIsi K) [.o p ds, .v (.ty T)] κ := cd_isi rfl hb k
end
local macro_rules | `(tactic| walk_at "kit") => `(tactic| first | with_reducible exact kit_int_int | with_reducible exact kit_int_bool | with_reducible exact kit_int_str | with_reducible exact kit_int_tuple | with_reducible exact kit_int_list | with_reducible exact kit_int_dict | with_reducible exact kit_str_int | with_reducible exact kit_str_bool | with_reducible exact kit_str_str | with_reducible exact kit_str_tuple | with_reducible exact kit_str_list | with_reducible exact kit_str_dict | with_reducible exact kit_tuple_int | with_reducible exact kit_tuple_bool | with_reducible exact kit_tuple_str | with_reducible exact kit_tuple_tuple | with_reducible exact kit_tuple_list | with_reducible exact kit_tuple_dict | with_reducible exact kit_list_int | with_reducible exact kit_list_bool | with_reducible exact kit_list_str | with_reducible exact kit_list_tuple | with_reducible exact kit_list_list | with_reducible exact kit_list_dict)
local macro_rules | `(tactic| walk_at "shp") => `(tactic| first
  | with_reducible exact (shp_int _).ok
  | with_reducible exact (shp_pl _).ok
  | with_reducible exact (shp_bool _).ok
  | with_reducible exact (shp_it _).ok
  | with_reducible exact (shp_str (by decide +kernel)).ok
  | with_reducible exact (shp_2 (shp_str (by decide +kernel)) (shp_int _)).ok
  | with_reducible exact (shp_st _).ok
  | with_reducible exact (shp_str (kd_ok _)).ok
  | with_reducible exact (shp_str (pl_ok _)).ok
  | with_reducible exact (shp_pls _).ok
  | with_reducible exact (shp_hs _).ok
  | with_reducible exact shp_nil.ok
  | with_reducible exact (shp_dd _).ok
  | with_reducible exact (shp_sg _).ok
  | with_reducible exact (shp_rw _).ok
  | assumption)
local macro_rules | `(tactic| walk_at "ed") => `(tactic| first
  | ((with_reducible refine' ed_var ?hv ?_); (case hv => exact rfl))
  | with_reducible refine ed_int ?_
  | with_reducible refine ed_str ?_
  | with_reducible refine ed_bl ?_
  | with_reducible refine ed_non ?_
  | with_reducible refine edd_cons ?_
  | with_reducible refine edd_nil ?_
  | with_reducible refine eda_cons ?_
  | with_reducible refine eda_nil ?_
  | with_reducible refine ⟨_, rfl, _, fldH1 ‹_›, ?_⟩
  | with_reducible refine ⟨_, rfl, _, fldH2 ‹_›, ?_⟩
  | with_reducible refine ⟨_, rfl, _, fldH3 ‹_›, ?_⟩
  | with_reducible refine ⟨_, rfl, _, fldH4 ‹_›, ?_⟩
  | with_reducible refine ⟨_, rfl, insH, ?_⟩
  | with_reducible refine ⟨_, rfl, ?_⟩
  | with_reducible refine ⟨_, _, rfl, ?_⟩
  | with_reducible refine ⟨_, _, _, rfl, ?_⟩
  | with_reducible refine ed_tupD ?_
  | with_reducible refine ed_lstD ?_
  | with_reducible refine ed_op ?_
  | with_reducible refine ed_chain ?_
  | with_reducible refine ed_fld ?_
  | with_reducible refine ed_prop ?_
  | with_reducible refine ed_meth ?_
  | with_reducible refine gd_tup rfl ?_
  | with_reducible refine gds_cons ?_
  | with_reducible refine gds_nil ?_
  | with_reducible refine ed_slHi ?_
  | with_reducible refine ed_slLo ?_
  | ((with_reducible refine' cd_isiI ?hb ?_); (case hb => walk_at "kit"))
  | ((with_reducible refine' cd_isiS ?hb ?_); (case hb => walk_at "kit"))
  | ((with_reducible refine' cd_isiT ?hb ?_); (case hb => walk_at "kit"))
  | ((with_reducible refine' cd_isiL ?hb ?_); (case hb => walk_at "kit"))
  | with_reducible refine ed_ty ?_
  | with_reducible refine fun (_ : NewA _ _ _) => ?_
  | with_reducible refine ed_lstRg ?_
  | with_reducible refine ed_cb ?_
  | with_reducible refine ed_call ?_
  | with_reducible refine ed_and ?_
  | with_reducible refine ed_or ?_
  | with_reducible refine ed_not ?_
  | with_reducible refine ed_if ?_
  | with_reducible refine td_test ?_
  | with_reducible refine td_B ?_
  | with_reducible refine td_and ?_
  | with_reducible refine td_or ?_
  | with_reducible refine td_not ?_
  | with_reducible refine td_yes ?_
  | with_reducible refine rd_I0 ?_
  | with_reducible refine rd_eqT ?_
  | with_reducible refine rd_neT ?_
  | with_reducible refine rd_B0 ?_
  | ((with_reducible refine rd_eq ?hx ?hy ?_); (case hx => walk_at "shp"); (case hy => walk_at "shp"))
  | ((with_reducible refine rd_ne ?hx ?hy ?_); (case hx => walk_at "shp"); (case hy => walk_at "shp"))
  | ((with_reducible refine' rd_ixTi ?h0 ?hi ?_); (case h0 => decide); (case hi => exact rfl))
  | ((with_reducible refine len_ok ?hl ?_); (case hl => exact rfl))
  | ((with_reducible refine ed_dsel3 ?a12 ?a13 ?a23 ?_); (case a12 => decide +kernel); (case a13 => decide +kernel); (case a23 => decide +kernel))
  | with_reducible refine fun _ (_ : New _ _ _) => ?_
  | with_reducible refine cd_lenK (.inr ⟨_, rfl, ?_⟩)
  | with_reducible refine cd_lenK (.inl ⟨_, _, rfl, ?_⟩)
  | with_reducible refine cd_tupleK ?_
  | ((with_reducible refine if_t ?hc ?_); (case hc => first | rfl | decide +kernel))
  | ((with_reducible refine if_f ?hc ?_); (case hc => first | rfl | decide +kernel))
  | with_reducible refine sd_par ?_
  | with_reducible refine sd_par3 ?_
  | with_reducible refine sd_next ?_
  | with_reducible refine sd_ret ?_
  | with_reducible refine sd_drop ?_
  | with_reducible refine sd_seq ?_
  | with_reducible refine sd_asg ?_
  | with_reducible refine gd_name ?_
  | with_reducible refine sd_if ?_)
local macro_rules | `(tactic| walk_at "out") => `(tactic| exact ⟨by assumption, fun _ _ z => by cases z⟩)
local macro_rules | `(tactic| walk_at "eds") => `(tactic| repeat walk_at "ed")

section
variable {P : Program} {w : World} {K : Frag} {mg : Str → Option Value} {base : Heap}
abbrev s_is_number : Stmt := topS 22
abbrev N_is_number : List Str := ["value", "lowest", "highest"]
theorem sc_is_number : FnScope N_is_number ["value", "lowest", "highest"] (defScope s_is_number) := ⟨rfl, rfl, rfl, by decide +kernel, rfl, by decide +kernel, by decide +kernel⟩
def preNum : Wd → List A → (A → Prop) → Prop := fun _ as κ => ∃ v a b : Int, as = [.d (.int v), .d (.int a), .d (.int b)] ∧ κ (.d (.bool (decide (a ≤ v) && decide (v ≤ b))))
theorem ok_num (T : Tx K mg) : Ok P w K mg base 1 ("is_number", none) ["value", "lowest", "highest"] (spD K preNum) := by
  refine okD T.d_is_number sc_is_number (fun _ _ _ _ _ _ us hl => match us, hl with | [_, _, _], _ => rfl) (fun _ _ _ ⟨_, _, _, e, _⟩ => by rw [e]; rfl) (fun _ _ _ _ h => h) fun f cdv Ar outer s H E hr W as κ ⟨v, a, b, e, k⟩ => ?_
  subst e
  refine ⟨_, (pss_one (ps_ret (pe_and (pe_callB (call_isiK' K) (by rfl) T.b_isinstance (by decide +kernel) (pa_cons (pv 0) (pa_cons (pe_ty "int" T.b_int) pa_nil))) (pe_and (pe_not (pe_callB (call_isiK' K) (by rfl) T.b_isinstance (by decide +kernel) (pa_cons (pv 0) (pa_cons (pe_ty "bool" T.b_bool) pa_nil)))) (pe_one (pe_chain op_le op_le (pv 1) (pv 0) (pv 2))))))), ?_⟩
  walk_at "eds"
  cases e1 : decide (a ≤ v) with
  | true =>
    refine if_t rfl ?_
    walk_at "eds"
    rw [e1] at k
    exact ⟨k, fun _ _ z => by cases z⟩
  | false =>
    refine if_f rfl ?_
    rw [e1] at k
    exact ⟨k, fun _ _ z => by cases z⟩
/-! the properties -/
abbrev s_House_hands : Stmt := inClass (topS 23) 3
abbrev N_House_hands : List Str := ["self"]
theorem sc_House_hands : FnScope N_House_hands ["self"] (defScope s_House_hands) := ⟨rfl, rfl, rfl, by decide +kernel, rfl, by decide +kernel, by decide +kernel⟩
abbrev preH_hands (K : Frag) : Wd → List A → (A → Prop) → Prop := fun _ as κ => ∃ h : Hs, as = [.p (HouseAt K h)] ∧ κ (.d (.int (h.hands : Int)))
theorem ok_H_hands (T : Tx K mg) : OkP P w K mg base 1 (He.ga K "House") "hands" (spD K (preH_hands K)) := by
  refine okP T.p_House_hands sc_House_hands (fun _ _ _ _ _ _ us hl => match us, hl with | [_], _ => rfl) (fun _ _ _ ⟨_, e, _⟩ => by rw [e]; rfl) (fun _ _ _ _ h => h) fun f cdv Ar outer s H E hr W as κ ⟨h, e, k⟩ => ?_
  subst e
  refine ⟨_, (pss_one (ps_ret (pe_fldK K (pv 0) rfl))), ?_⟩
  walk_at "eds"
  walk_at "out"
abbrev s_House_boxes : Stmt := inClass (topS 23) 4
abbrev N_House_boxes : List Str := ["self"]
theorem sc_House_boxes : FnScope N_House_boxes ["self"] (defScope s_House_boxes) := ⟨rfl, rfl, rfl, by decide +kernel, rfl, by decide +kernel, by decide +kernel⟩
abbrev preH_boxes (K : Frag) : Wd → List A → (A → Prop) → Prop := fun _ as κ => ∃ h : Hs, as = [.p (HouseAt K h)] ∧ κ (.d (plsE h.boxes))
theorem ok_H_boxes (T : Tx K mg) : OkP P w K mg base 1 (He.ga K "House") "boxes" (spD K (preH_boxes K)) := by
  refine okP T.p_House_boxes sc_House_boxes (fun _ _ _ _ _ _ us hl => match us, hl with | [_], _ => rfl) (fun _ _ _ ⟨_, e, _⟩ => by rw [e]; rfl) (fun _ _ _ _ h => h) fun f cdv Ar outer s H E hr W as κ ⟨h, e, k⟩ => ?_
  subst e
  refine ⟨_, (pss_one (ps_ret (pe_fldK K (pv 0) rfl))), ?_⟩
  walk_at "eds"
  walk_at "out"
abbrev s_House_things : Stmt := inClass (topS 23) 5
abbrev N_House_things : List Str := ["self"]
theorem sc_House_things : FnScope N_House_things ["self"] (defScope s_House_things) := ⟨rfl, rfl, rfl, by decide +kernel, rfl, by decide +kernel, by decide +kernel⟩
abbrev preH_things (K : Frag) : Wd → List A → (A → Prop) → Prop := fun _ as κ => ∃ h : Hs, as = [.p (HouseAt K h)] ∧ κ (.d (plsE h.things))
theorem ok_H_things (T : Tx K mg) : OkP P w K mg base 1 (He.ga K "House") "things" (spD K (preH_things K)) := by
  refine okP T.p_House_things sc_House_things (fun _ _ _ _ _ _ us hl => match us, hl with | [_], _ => rfl) (fun _ _ _ ⟨_, e, _⟩ => by rw [e]; rfl) (fun _ _ _ _ h => h) fun f cdv Ar outer s H E hr W as κ ⟨h, e, k⟩ => ?_
  subst e
  refine ⟨_, (pss_one (ps_ret (pe_fldK K (pv 0) rfl))), ?_⟩
  walk_at "eds"
  walk_at "out"
abbrev s_House_seals : Stmt := inClass (topS 23) 6
abbrev N_House_seals : List Str := ["self"]
theorem sc_House_seals : FnScope N_House_seals ["self"] (defScope s_House_seals) := ⟨rfl, rfl, rfl, by decide +kernel, rfl, by decide +kernel, by decide +kernel⟩
abbrev preH_seals (K : Frag) : Wd → List A → (A → Prop) → Prop := fun _ as κ => ∃ h : Hs, as = [.p (HouseAt K h)] ∧ κ (.d (plsE h.seals))
theorem ok_H_seals (T : Tx K mg) : OkP P w K mg base 1 (He.ga K "House") "seals" (spD K (preH_seals K)) := by
  refine okP T.p_House_seals sc_House_seals (fun _ _ _ _ _ _ us hl => match us, hl with | [_], _ => rfl) (fun _ _ _ ⟨_, e, _⟩ => by rw [e]; rfl) (fun _ _ _ _ h => h) fun f cdv Ar outer s H E hr W as κ ⟨h, e, k⟩ => ?_
  subst e
  refine ⟨_, (pss_one (ps_ret (pe_fldK K (pv 0) rfl))), ?_⟩
  walk_at "eds"
  walk_at "out"
abbrev s_House_state : Stmt := inClass (topS 23) 7
abbrev N_House_state : List Str := ["self"]
theorem sc_House_state : FnScope N_House_state ["self"] (defScope s_House_state) := ⟨rfl, rfl, rfl, by decide +kernel, rfl, by decide +kernel, by decide +kernel⟩
abbrev preH_state (K : Frag) : Wd → List A → (A → Prop) → Prop := fun _ as κ => ∃ h : Hs, as = [.p (HouseAt K h)] ∧ κ (.d h.st.e)
theorem ok_H_state (T : Tx K mg) : OkP P w K mg base 1 (He.ga K "House") "state" (spD K (preH_state K)) := by
  refine okP T.p_House_state sc_House_state (fun _ _ _ _ _ _ us hl => match us, hl with | [_], _ => rfl) (fun _ _ _ ⟨_, e, _⟩ => by rw [e]; rfl) (fun _ _ _ _ h => h) fun f cdv Ar outer s H E hr W as κ ⟨h, e, k⟩ => ?_
  subst e
  refine ⟨_, (pss_one (ps_ret (pe_tup (pa_cons (pe_fldK K (pv 0) rfl) (pa_cons (pe_fldK K (pv 0) rfl) (pa_cons (pe_fldK K (pv 0) rfl) pa_nil)))))), ?_⟩
  walk_at "eds"
  walk_at "out"
end
end Q47
set_option maxHeartbeats 4000000
/-! ### houses: places, in, == -/
namespace Q47
open PySem L2
open PySem.W (Frag)
open PyProof.Rows (envOfC)
local macro_rules | `(tactic| walk_at "kit") => `(tactic| first | with_reducible exact kit_int_int | with_reducible exact kit_int_bool | with_reducible exact kit_int_str | with_reducible exact kit_int_tuple | with_reducible exact kit_int_list | with_reducible exact kit_int_dict | with_reducible exact kit_str_int | with_reducible exact kit_str_bool | with_reducible exact kit_str_str | with_reducible exact kit_str_tuple | with_reducible exact kit_str_list | with_reducible exact kit_str_dict | with_reducible exact kit_tuple_int | with_reducible exact kit_tuple_bool | with_reducible exact kit_tuple_str | with_reducible exact kit_tuple_tuple | with_reducible exact kit_tuple_list | with_reducible exact kit_tuple_dict | with_reducible exact kit_list_int | with_reducible exact kit_list_bool | with_reducible exact kit_list_str | with_reducible exact kit_list_tuple | with_reducible exact kit_list_list | with_reducible exact kit_list_dict)
local macro_rules | `(tactic| walk_at "shp") => `(tactic| first
  | with_reducible exact (shp_int _).ok
  | with_reducible exact (shp_pl _).ok
  | with_reducible exact (shp_bool _).ok
  | with_reducible exact (shp_it _).ok
  | with_reducible exact (shp_str (by decide +kernel)).ok
  | with_reducible exact (shp_2 (shp_str (by decide +kernel)) (shp_int _)).ok
  | with_reducible exact (shp_st _).ok
  | with_reducible exact (shp_str (kd_ok _)).ok
  | with_reducible exact (shp_str (pl_ok _)).ok
  | with_reducible exact (shp_pls _).ok
  | with_reducible exact (shp_hs _).ok
  | with_reducible exact shp_nil.ok
  | with_reducible exact (shp_dd _).ok
  | with_reducible exact (shp_sg _).ok
  | with_reducible exact (shp_rw _).ok
  | assumption)
local macro_rules | `(tactic| walk_at "ed") => `(tactic| first
  | ((with_reducible refine' ed_var ?hv ?_); (case hv => exact rfl))
  | with_reducible refine ed_int ?_
  | with_reducible refine ed_str ?_
  | with_reducible refine ed_bl ?_
  | with_reducible refine ed_non ?_
  | with_reducible refine edd_cons ?_
  | with_reducible refine edd_nil ?_
  | with_reducible refine eda_cons ?_
  | with_reducible refine eda_nil ?_
  | with_reducible refine ⟨_, rfl, _, fldH1 ‹_›, ?_⟩
  | with_reducible refine ⟨_, rfl, _, fldH2 ‹_›, ?_⟩
  | with_reducible refine ⟨_, rfl, _, fldH3 ‹_›, ?_⟩
  | with_reducible refine ⟨_, rfl, _, fldH4 ‹_›, ?_⟩
  | with_reducible refine ⟨_, rfl, insH, ?_⟩
  | with_reducible refine ⟨_, rfl, ?_⟩
  | with_reducible refine ⟨_, _, rfl, ?_⟩
  | with_reducible refine ⟨_, _, _, rfl, ?_⟩
  | with_reducible refine ed_tupD ?_
  | with_reducible refine ed_lstD ?_
  | with_reducible refine ed_op ?_
  | with_reducible refine ed_chain ?_
  | with_reducible refine ed_fld ?_
  | with_reducible refine ed_prop ?_
  | with_reducible refine ed_meth ?_
  | with_reducible refine gd_tup rfl ?_
  | with_reducible refine gds_cons ?_
  | with_reducible refine gds_nil ?_
  | with_reducible refine ed_slHi ?_
  | with_reducible refine ed_slLo ?_
  | ((with_reducible refine' cd_isiI ?hb ?_); (case hb => walk_at "kit"))
  | ((with_reducible refine' cd_isiS ?hb ?_); (case hb => walk_at "kit"))
  | ((with_reducible refine' cd_isiT ?hb ?_); (case hb => walk_at "kit"))
  | ((with_reducible refine' cd_isiL ?hb ?_); (case hb => walk_at "kit"))
  | with_reducible refine ed_ty ?_
  | with_reducible refine fun (_ : NewA _ _ _) => ?_
  | with_reducible refine ed_lstRg ?_
  | with_reducible refine ed_cb ?_
  | with_reducible refine ed_call ?_
  | with_reducible refine ed_and ?_
  | with_reducible refine ed_or ?_
  | with_reducible refine ed_not ?_
  | with_reducible refine ed_if ?_
  | with_reducible refine td_test ?_
  | with_reducible refine td_B ?_
  | with_reducible refine td_and ?_
  | with_reducible refine td_or ?_
  | with_reducible refine td_not ?_
  | with_reducible refine td_yes ?_
  | with_reducible refine rd_I0 ?_
  | with_reducible refine rd_eqT ?_
  | with_reducible refine rd_neT ?_
  | with_reducible refine rd_B0 ?_
  | ((with_reducible refine rd_eq ?hx ?hy ?_); (case hx => walk_at "shp"); (case hy => walk_at "shp"))
  | ((with_reducible refine rd_ne ?hx ?hy ?_); (case hx => walk_at "shp"); (case hy => walk_at "shp"))
  | ((with_reducible refine' rd_ixTi ?h0 ?hi ?_); (case h0 => decide); (case hi => exact rfl))
  | ((with_reducible refine len_ok ?hl ?_); (case hl => exact rfl))
  | ((with_reducible refine ed_dsel3 ?a12 ?a13 ?a23 ?_); (case a12 => decide +kernel); (case a13 => decide +kernel); (case a23 => decide +kernel))
  | with_reducible refine fun _ (_ : New _ _ _) => ?_
  | with_reducible refine cd_lenK (.inr ⟨_, rfl, ?_⟩)
  | with_reducible refine cd_lenK (.inl ⟨_, _, rfl, ?_⟩)
  | with_reducible refine cd_tupleK ?_
  | ((with_reducible refine if_t ?hc ?_); (case hc => first | rfl | decide +kernel))
  | ((with_reducible refine if_f ?hc ?_); (case hc => first | rfl | decide +kernel))
  | with_reducible refine sd_par ?_
  | with_reducible refine sd_par3 ?_
  | with_reducible refine sd_next ?_
  | with_reducible refine sd_ret ?_
  | with_reducible refine sd_drop ?_
  | with_reducible refine sd_seq ?_
  | with_reducible refine sd_asg ?_
  | with_reducible refine gd_name ?_
  | with_reducible refine sd_if ?_)
local macro_rules | `(tactic| walk_at "out") => `(tactic| exact ⟨by assumption, fun _ _ z => by cases z⟩)
local macro_rules | `(tactic| walk_at "eds") => `(tactic| repeat walk_at "ed")

section
variable {P : Program} {w : World} {K : Frag} {mg : Str → Option Value} {base : Heap}
def PartOk (h : Hs) (part : Str) (i : Nat) (p : Pl) : Prop := (part = "boxes" ∧ PlIn h.hands i p) ∨ (part = "things" ∧ PlIn h.hands h.boxes.length p) ∨ (part = "seals" ∧ PlIn h.hands h.boxes.length p ∧ h.seals[i]? = some p)
theorem insM {h : Hs} {m : Str} (hm : ([("hand_count", ()), ("box_places", ()), ("thing_places", ()), ("seal_places", ())] : List (Str × Unit)).lookup m = none) : ∀ v H, HouseAt K h v H → ∃ b dx fs, v = .ref b ∧ H b = some (.ins (He.ga K "House") dx fs) ∧ fs.lookup m = none := fun v H q => by
  obtain ⟨a, dx, v2, v3, v4, e, h1, h2, h3, h4⟩ := q
  refine ⟨a, dx, _, e, h1, ?_⟩
  simp only [List.lookup] at hm ⊢
  revert hm
  cases m == ("hand_count" : Str) <;> cases m == ("box_places" : Str) <;> cases m == ("thing_places" : Str) <;> cases m == ("seal_places" : Str) <;> simp
theorem any_plT (l : List Pl) (p : Pl) (i : Nat) : ((cutD (l.map Pl.e) none (some (i : Int))).any fun z => PyData.eqv z p.e) = decide (p ∈ l.take i) := by
  unfold cutD
  rw [HT.sIx_none, List.drop_zero, Nat.sub_zero, HT.sIx_nat, ← any_pl, List.map_take, List.length_map]
  by_cases c : i ≤ l.length
  · rw [Nat.min_eq_left c]
  · rw [Nat.min_eq_right (by omega), List.take_of_length_le (by rw [List.length_map]; omega), List.take_of_length_le (by rw [List.length_map]; omega)]
abbrev s_House_is_place : Stmt := inClass (topS 23) 2
abbrev N_House_is_place : List Str := ["self", "part", "index", "place", "kind", "number"]
theorem sc_House_is_place : FnScope N_House_is_place ["self", "part", "index", "place"] (defScope s_House_is_place) := ⟨rfl, rfl, rfl, by decide +kernel, rfl, by decide +kernel, by decide +kernel⟩
def prePlace (K : Frag) : Wd → List A → (A → Prop) → Prop := fun _ as κ => ∃ (h : Hs) (part : Str) (i : Nat) (p : Pl), as = [.p (HouseAt K h), .d (.str part), .d (.int (i : Int)), .d p.e] ∧ OneB h.seals ∧ PartOk h part i p ∧ κ (.d (.bool true))
theorem ok_is_place (T : Tx K mg) : Ok P w K mg base 2 ("House", some "is_place") ["self", "part", "index", "place"] (spD K (prePlace K)) := by
  have f_is_number : Ok P w K mg base 1 ("is_number", none) ["value", "lowest", "highest"] (spD K preNum) := ok_num T
  refine okD T.d_House_is_place sc_House_is_place (fun _ _ _ _ _ _ us hl => match us, hl with | [_, _, _, _], _ => rfl) (fun _ _ _ ⟨_, _, _, _, e, _⟩ => by rw [e]; rfl) (fun _ _ _ _ h => h) fun f cdv Ar outer s H E hr W as κ ⟨h, part, i, p, e, one, hp, k⟩ => ?_
  subst e
  refine ⟨_, (pss_cons (ps_asg (pv 3) (pg_tupK (n := 2) K rfl (pgs_cons (pg_name (i := 4) sc_House_is_place.nd rfl (Or.inl rfl)) (pgs_cons (pg_name (i := 5) sc_House_is_place.nd rfl (Or.inl rfl)) pgs_nil))))
      (pss_cons (ps_if (pt_cmpR op_eq (pv 4) (pe_gS T.s_HAND) (nomark _)) (pss_one (ps_ret (pe_cf f_is_number (hr.mono (by decide)) T.g_is_number (pa_cons (pv 5) (pa_cons pe_int (pa_cons (pe_op op_sub (pe_fldK K (pv 0) rfl) pe_int) pa_nil)))))) pss_nil)
      (pss_cons (ps_if (pt_cmpR op_eq (pv 1) pe_str (nomark _)) (pss_one (ps_ret (pe_cf f_is_number (hr.mono (by decide)) T.g_is_number (pa_cons (pv 5) (pa_cons pe_int (pa_cons (pe_op op_sub (pv 2) pe_int) pa_nil)))))) pss_nil)
      (pss_cons (ps_if (PW.pt (pw_and (pt_cmpR op_eq (pv 1) pe_str (nomark _)) (pw_and1 (pt_cmpR (op_inDTK K (room65 hr)) (pv 3) (pe_slice (sl_tupAK K) (pe_fldK K (pv 0) rfl) po_none (po_some (pv 2))) (by rfl))))) (pss_one (ps_ret pe_bl)) pss_nil)
      (pss_one (ps_ret (pe_cf f_is_number (hr.mono (by decide)) T.g_is_number (pa_cons (pv 5) (pa_cons pe_int (pa_cons (pe_op op_sub (pe_callB (call_lenK K) (by rfl) T.b_len (by decide +kernel) (pa_cons (pe_fldK K (pv 0) rfl) pa_nil)) pe_int) pa_nil)))))))))), ?_⟩
  have num : ∀ {Γ : Gm} {n m : Nat}, n < m → preNum W [.d (.int (n : Int)), .d (.int 0), .d (.int ((m : Int) - 1))] fun x => NewA W Γ x → Out W κ x := fun {Γ n m} hn => ⟨_, _, _, rfl, fun _ => by
    rw [num_ok hn]
    exact ⟨k, fun _ _ z => by cases z⟩⟩
  walk_at "eds"
  cases p with
  | gone => rcases hp with ⟨_, z⟩ | ⟨_, z⟩ | ⟨_, z, _⟩ <;> exact z.elim
  | hand n =>
    have hn : n < h.hands := by rcases hp with ⟨_, z⟩ | ⟨_, z⟩ | ⟨_, z, _⟩ <;> exact z
    walk_at "eds"
    exact num hn
  | box n =>
    walk_at "eds"
    rcases hp with ⟨rfl, hn⟩ | ⟨rfl, hn⟩ | ⟨rfl, hn, hs⟩
    · walk_at "eds"
      exact num hn
    · walk_at "eds"
      rw [List.length_map]
      exact num hn
    · walk_at "eds"
      refine rd_inDT (shp_pl _).ok ?_ ?_
      · unfold cutD
        exact (shp_tup (n := 1) fun d hd => by
          obtain ⟨q, _, rfl⟩ := List.mem_map.mp (List.mem_of_mem_drop (List.mem_of_mem_take hd))
          exact shp_pl q).ok
      rw [any_plT]
      have hno : Pl.box n ∉ h.seals.take i := fun m => by
        obtain ⟨j, hj, e⟩ := List.mem_iff_getElem.mp m
        rw [List.length_take] at hj
        rw [List.getElem_take] at e
        refine one j i n (by omega) ?_ hs
        rw [List.getElem?_eq_getElem (by omega), e]
      rw [decide_eq_false hno]
      walk_at "eds"
      rw [List.length_map]
      exact num hn
abbrev s_House_validate_places : Stmt := inClass (topS 23) 1
abbrev N_House_validate_places : List Str := ["self", "part", "places", "most", "index", "place"]
theorem sc_House_validate_places : FnScope N_House_validate_places ["self", "part", "places", "most"] (defScope s_House_validate_places) := ⟨rfl, rfl, rfl, by decide +kernel, rfl, by decide +kernel, by decide +kernel⟩
def prePlaces (K : Frag) : Wd → List A → (A → Prop) → Prop := fun _ as κ => ∃ (h : Hs) (part : Str) (l : List Pl) (m : Nat), as = [.p (HouseAt K h), .d (.str part), .d (plsE l), .d (.int (m : Int))] ∧ OneB h.seals ∧ (∀ (i : Nat) p, l[i]? = some p → PartOk h part i p) ∧ l.length ≤ m ∧ κ (.d .none)
theorem ok_places (T : Tx K mg) : Ok P w K mg base 3 ("House", some "validate_places") ["self", "part", "places", "most"] (spD K (prePlaces K)) := by
  have f_House_is_place : Ok P w K mg base 2 ("House", some "is_place") ["self", "part", "index", "place"] (spD K (prePlace K)) := ok_is_place T
  refine okD T.d_House_validate_places sc_House_validate_places (fun _ _ _ _ _ _ us hl => match us, hl with | [_, _, _, _], _ => rfl) (fun _ _ _ ⟨_, _, _, _, e, _⟩ => by rw [e]; rfl) (fun _ _ _ _ h => h) fun f cdv Ar outer s H E hr W as κ ⟨h, part, l, m, e, one, hp, hm, k⟩ => ?_
  subst e
  refine ⟨_, (pss_one (ps_for PassesOwn.never rfl (pi_enumTK K rfl T.b_enumerate (pa_cons (pv 2) pa_nil)) (pg_tupK (n := 2) K rfl (pgs_cons (pg_name (i := 4) sc_House_validate_places.nd rfl (Or.inl rfl)) (pgs_cons (pg_name (i := 5) sc_House_validate_places.nd rfl (Or.inl rfl)) pgs_nil))) (pss_one (ps_if (PW.pt (pw_or (pt_cmpR (op_eqDK K hr.units) (pv 4) (pv 3) (nomark _)) (pw_or1 (pt_not (pt_val (pe_cm f_House_is_place (hr.mono (by decide)) T.c_House T.m_House_is_place (pv 0) (pa_cons (pv 1) (pa_cons (pv 4) (pa_cons (pv 5) pa_nil))))))))) pss_never pss_nil)))), ?_⟩
  refine sd_forET (ds := l.map Pl.e) (fun i Γ' => ∃ x y, Γ' = [some (.p (HouseAt K h)), some (.d (.str part)), some (.d (plsE l)), some (.d (.int (m : Int))), x, y]) (eda_cons (ed_var rfl (eda_nil rfl))) ⟨none, none, rfl⟩ (fun i d Γ' hd ⟨x, y, e⟩ => ?_) fun Γ' _ => k
  subst e
  obtain ⟨p, hpl, rfl⟩ := map_at' hd
  have hi := (List.getElem?_eq_some_iff.mp hpl).1
  walk_at "eds"
  rw [eqv_nat, decide_eq_false (by omega)]
  walk_at "eds"
  refine ⟨insM (by decide +kernel), ?_⟩
  walk_at "eds"
  refine ⟨h, part, i, p, rfl, one, hp i p hpl, fun _ => ?_⟩
  walk_at "eds"
  exact ⟨_, _, rfl⟩
abbrev s_House___contains__ : Stmt := inClass (topS 23) 9
abbrev N_House___contains__ : List Str := ["self", "item", "kind", "number", "places"]
theorem sc_House___contains__ : FnScope N_House___contains__ ["self", "item"] (defScope s_House___contains__) := ⟨rfl, rfl, rfl, by decide +kernel, rfl, by decide +kernel, by decide +kernel⟩
def preIn (K : Frag) : Wd → List A → (A → Prop) → Prop := fun _ as κ => ∃ (h : Hs) (i : It), as = [.p (HouseAt K h), .d i.e] ∧ ItOk h i ∧ κ (.d (.bool true))
theorem ok_contains (T : Tx K mg) : Ok P w K mg base 2 ("House", some "__contains__") ["self", "item"] (spD K (preIn K)) := by
  have f_is_number : Ok P w K mg base 1 ("is_number", none) ["value", "lowest", "highest"] (spD K preNum) := ok_num T
  refine okD T.d_House___contains__ sc_House___contains__ (fun _ _ _ _ _ _ us hl => match us, hl with | [_, _], _ => rfl) (fun _ _ _ ⟨_, _, e, _⟩ => by rw [e]; rfl) (fun _ _ _ _ h => h) fun f cdv Ar outer s H E hr W as κ ⟨h, it, e, hi, k⟩ => ?_
  subst e
  refine ⟨_, (pss_cons (ps_asg (pv 1) (pg_tupK (n := 2) K rfl (pgs_cons (pg_name (i := 2) sc_House___contains__.nd rfl (Or.inl rfl)) (pgs_cons (pg_name (i := 3) sc_House___contains__.nd rfl (Or.inl rfl)) pgs_nil))))
      (pss_cons (ps_if (pt_cmpR (op_notIn_seqK K) (pv 2) (pe_tup (pa_cons (pe_gS T.s_BOX) (pa_cons (pe_gS T.s_SEAL) (pa_cons (pe_gS T.s_THING) pa_nil)))) (by rfl)) (pss_one (ps_ret pe_bl)) pss_nil)
      (pss_cons (ps_set (i := 4) sc_House___contains__.nd rfl (Or.inl rfl) (pe_dget (hu_of hr) (pe_disp (pps_cons (pe_gS T.s_BOX) (pe_fldK K (pv 0) rfl) (pps_cons (pe_gS T.s_SEAL) (pe_fldK K (pv 0) rfl) (pps_cons (pe_gS T.s_THING) (pe_fldK K (pv 0) rfl) pps_nil))) (by rfl) (by rfl) (fun z => by cases z) (by decide)) (pv 2) (fun _ _ => rfl)))
      (pss_one (ps_ret (pe_cf f_is_number (hr.mono (by decide)) T.g_is_number (pa_cons (pv 3) (pa_cons pe_int (pa_cons (pe_op op_sub (pe_callB (call_lenK K) (by rfl) T.b_len (by decide +kernel) (pa_cons (pv 4) pa_nil)) pe_int) pa_nil))))))))), ?_⟩
  have num : ∀ {Γ : Gm} {n m : Nat}, n < m → preNum W [.d (.int (n : Int)), .d (.int 0), .d (.int ((m : Int) - 1))] fun x => NewA W Γ x → Out W κ x := fun {Γ n m} hn => ⟨_, _, _, rfl, fun _ => by
    rw [num_ok hn]
    exact ⟨k, fun _ _ z => by cases z⟩⟩
  walk_at "eds"
  refine rd_in (xs := ["box", "seal", "thing"]) ?_
  obtain ⟨kd, n⟩ := it
  cases kd with
  | box =>
    walk_at "eds"
    refine .inl ⟨rfl, ?_⟩
    walk_at "eds"
    rw [List.length_map]
    exact num hi
  | sl =>
    walk_at "eds"
    refine .inr (.inl ⟨rfl, ?_⟩)
    walk_at "eds"
    rw [List.length_map]
    exact num hi
  | thing =>
    walk_at "eds"
    refine .inr (.inr ⟨rfl, ?_⟩)
    walk_at "eds"
    rw [List.length_map]
    exact num hi
abbrev s_House___eq__ : Stmt := inClass (topS 23) 10
abbrev N_House___eq__ : List Str := ["self", "other"]
theorem sc_House___eq__ : FnScope N_House___eq__ ["self", "other"] (defScope s_House___eq__) := ⟨rfl, rfl, rfl, by decide +kernel, rfl, by decide +kernel, by decide +kernel⟩
def preEqH (K : Frag) : Wd → List A → (A → Prop) → Prop := fun _ as κ => ∃ h : Hs, as = [.p (HouseAt K h), .p (HouseAt K h)] ∧ κ (.d (.bool true))
theorem ok_eqH (T : Tx K mg) (T2 : Tx2 w K) : Ok P w K mg base 3 ("House", some "__eq__") ["self", "other"] (spD K (preEqH K)) := by
  have f_House_hands := ok_H_hands (P := P) (w := w) (base := base) T
  have f_House_state := ok_H_state (P := P) (w := w) (base := base) T
  refine okD T.d_House___eq__ sc_House___eq__ (fun _ _ _ _ _ _ us hl => match us, hl with | [_, _], _ => rfl) (fun _ _ _ ⟨_, e, _⟩ => by rw [e]; rfl) (fun _ _ _ _ h => h) fun f cdv Ar outer s H E hr W as κ ⟨h, e, k⟩ => ?_
  subst e
  refine ⟨_, (pss_cons (ps_if (pt_not (pt_val (pe_callB (call_isiK' K) (by rfl) T.b_isinstance (by decide +kernel) (pa_cons (pv 1) (pa_cons (pe_gR T.g_House) pa_nil))))) pss_never pss_nil)
      (pss_one (ps_ret (pe_and (pe_cmpR (op_eqDK K hr.units) (pe_fldK K (pv 0) rfl) (pe_pr f_House_hands T.c_House (hr.mono (by decide)) (pv 1)) (nomark _)) (pe_one (pe_cmpR (op_eqDK K hr.units) (pe_pr f_House_state T.c_House (hr.mono (by decide)) (pv 0)) (pe_pr f_House_state T.c_House (hr.mono (by decide)) (pv 1)) (nomark _))))))), ?_⟩
  walk_at "eds"
  refine ed_raw ?_
  walk_at "eds"
  refine cd_isiC T2.ic_House insH ?_
  walk_at "eds"
  rw [eqv_nat, decide_eq_true rfl]
  walk_at "eds"
  rw [eqv_self (shp_st _)]
  exact ⟨k, fun _ _ z => by cases z⟩
end
end Q47
set_option maxHeartbeats 4000000
/-! ### in, == and != of own classes -/
namespace Q47
section
open PySem PySem.W PySem.Calls PyProof.Rows
variable {prog : Program} {w : World} {M : Model} {A : Around} {E : Value → Shared → Prop} {s : Shared} {K : Frag} {x C f L : Addr} {ox : Obj} {od : Option Obj} {name : Str} {args : List Value} {id : String} {h₀ : Heap} {m : Str → Option Value} {b tb : Value}
theorem slot_ne : Slot "object" "__ne__" "object.__ne__" :=
  Slot.of (owner := "object") (n := "__ne__") (by rw [typeLookup_type, builtinLookup_eq_fast]; kernel_rfl) (by decide +kernel) (by decide +kernel) (by decide +kernel) (.inl (by decide +kernel)) (by rw [isSubtype_type]; kernel_rfl)
theorem ifBound_blt {Q : Option Value → Shared → Prop} (X : K.In s.heap) (I : InstAt s.heap x ox C od) (hs : findIn K (.ref C) name = some (some (.builtin id))) (hb : ∀ self, bindSpecial (.builtin id) self = pure (.builtin id, [self]))
    (h : wpAny M A (call (.builtin id) (.ref x :: args)) (fun v => Q (some v)) E s) : wpAny M A (callSpecialIfBound? (.ref x) name args) Q E s := by
  simp only [callSpecialIfBound?, bindSpecialIfBound?]
  refine wpAny_holding (wpAny_bind (wpAny_bind (wpAny_bind (I.type.here ((looks_findIn X hs).here ?_)))))
  refine wpAny_bind (wpAny_askSetting (wpAny_ite ?_))
  have fin : wpAny M A (call (.builtin id) ([.ref x] ++ args) >>= fun v => pure (some v)) Q E s := wpAny_bind (wpAny_mono h (fun v s' z => wpAny_pure z) fun _ _ z => z)
  split
  · exact wpAny_bind ((Looks.of_pure (hb _)).here (wpAny_pure (by exact fin)))
  · exact wpAny_tryCatch (wpAny_bind ((Looks.of_pure (hb _)).here (wpAny_pure (by exact fin))))
theorem objNe {Q : Value → Shared → Prop} (hu : A.in1.units < cLine) (X : K.In s.heap) (I : InstAt s.heap x ox C od) (hm : mroIn K C (.type "object") = some true) (he : findIn K (.ref C) "__eq__" = some (some (.ref f))) (hf : isFn K (.ref f) = true)
    (h : wpAny (model prog w) A.in1 (call (.ref f) [.ref x, b]) (fun v s' => ∃ k, v = .bool k ∧ Q (.bool (!k)) s') E s) : wpAny (model prog w) A (call (.builtin "object.__ne__") [.ref x, b]) Q E s := by
  refine wpAny_call (codeAny_call_builtin slot_ne.plain F.cmpEntry_ne (check_slot (i := "object.__ne__") (owner := "object") (n := "__ne__") (by decide +kernel) (by decide +kernel) (I.type.andThen (looks_mroIn X hm)) (F.cmpArgs_ne _ _) ?_))
  unfold Builtin.«object.__ne__»
  repeat (first
    | with_reducible refine wpAny_cRoomFor hu ?_
    | (refine wpAny_bind (m := callSpecialIfBound? (.ref x) (Str.ofString "__eq__") [b]) (ifBound_K X I he hf (wpAny_mono h (fun r s' hr => by
          obtain ⟨k, rfl, hq⟩ := hr
          repeat (first | exact hq | exact wpAny_pure hq | exact wpAny_truthy_bool hq | (refine wpAny_bind (m := truthy (.bool _)) (wpAny_truthy_bool ?_)) | wp_step)) fun _ _ e => e)))
    | wp_step)
theorem neK {Q : Value → Shared → Prop} (hu : A.units < cLine) (hu1 : A.in1.units < cLine) (Fr' : Fr h₀ L s.heap m) (X₀ : K.In h₀) (I : InstAt s.heap x ox C od) (hb : Looks (model prog w) s.heap (typeOf b) (.ref C)) (hn : findIn K (.ref C) "__ne__" = some (some (.builtin "object.__ne__")))
    (hm : mroIn K C (.type "object") = some true) (he : findIn K (.ref C) "__eq__" = some (some (.ref f))) (hf : isFn K (.ref f) = true)
    (h : wpAny (model prog w) A.in1 (call (.ref f) [.ref x, b]) (fun v s' => ∃ k, v = .bool k ∧ Q (.bool (!k)) s') E s) : wpAny (model prog w) A (richCompare .NotEq (.ref x) b) Q E s := by
  have X := X₀.keeps Fr'.keep
  have one : wpAny (model prog w) A (tryCompare (.ref x) "__ne__" b) (fun r s' => ∃ k : Bool, r = some (Value.bool k) ∧ Q (.bool k) s') E s := by
    unfold tryCompare
    refine wpAny_bind (ifBound_blt X I hn slot_ne.bind (objNe hu1 X I hm he hf (wpAny_mono h (fun v s' hv => ?_) fun _ _ e => e)))
    obtain ⟨k, rfl, hq⟩ := hv
    exact ⟨k, rfl, wpAny_pure ⟨_, rfl, hq⟩⟩
  unfold richCompare
  simp only [oneThing_ref]
  refine wpAny_holding (wpAny_bind (wpAny_cRoomFor hu ?_))
  rw [cmpInfo_NotEq]
  dsimp only
  refine wpAny_bind (I.type.here (wpAny_bind (hb.here ?_)))
  rw [show (Value.ref C != Value.ref C) = false from by simp]
  simp only [Bool.false_eq_true, if_false]
  refine wpAny_bind (wpAny_pure ?_)
  simp only [Bool.false_eq_true, if_false]
  refine wpAny_bind (wpAny_mono one (fun r s' z => ?_) fun _ _ e => e)
  obtain ⟨k, rfl, hq⟩ := z
  exact wpAny_pure hq
end
section
open PySem L2 PyProof.Rows PySem.Spec
open PySem.W (Frag)
variable {X : Cx} {C f : Addr} {fd : FuncData} {ps : List Str} {sp : Sp} {k : Nat}
def InsF (C : Addr) (sp : Sp) : Prop := ∀ vs H Q E, sp vs H Q E → ∃ b dx fs r, vs = V.ref b :: r ∧ H b = some (.ins C dx fs)
def rNotInO (sp : Sp) : R2 := fun x y H Q => sp [y, x] H (fun v H' => ∃ k, v = .bl k ∧ Q (.bl (!k)) H') E0
theorem op_notInO (F : FnOk X.prog X.w X.K X.mg X.base CX0 k f fd ps sp) (hr : Room k X.A) (hb : Binds X.K fd ps []) (m : Meth X.K C "__contains__" f) (hI : InsF C sp) : OpR X (compareOp .NotIn) (rNotInO sp) := by
  intro pins s σ H x y v u Q I rx ry h
  obtain ⟨b, dx, fs, r, e, ha⟩ := hI _ _ _ _ h
  cases e
  obtain rfl : u = Value.ref b := ry
  obtain ⟨mA, J, _⟩ := L2.ins_get I.hok ha
  obtain ⟨od, J, _⟩ := J.look
  obtain ⟨mm, hF⟩ := I.fr
  refine PySem.W.notIn_K hF I.ok.mod.kin J m.at_ m.fn ?_
  refine wpAny_mono (run_fn F hr hb .nil pass0 I (vs := [.ref b, x]) (.cons rfl (.cons rx .nil)) (by rw [List.append_nil]; exact h)) (fun r s' q => ?_) fun _ _ z => z
  obtain ⟨v', H', I', rv, kk, rfl, q⟩ := q
  cases rv
  exact wpAny_truthy_bool ⟨.bl (!kk), H', I', rfl, q⟩
def IsO (C : Addr) (y : V) (H : Hp) : Prop := ∃ b dx fs, y = V.ref b ∧ H b = some (.ins C dx fs)
def rEqO (C : Addr) (sp : Sp) : R2 := fun x y H Q => IsO C y H ∧ sp [x, y] H (fun v H' => ∃ k, v = .bl k ∧ Q (.bl k) H') E0
def rNeO (C : Addr) (sp : Sp) : R2 := fun x y H Q => IsO C y H ∧ sp [x, y] H (fun v H' => ∃ k, v = .bl k ∧ Q (.bl (!k)) H') E0
theorem op_eqO (F : FnOk X.prog X.w X.K X.mg X.base CX0 k f fd ps sp) (hr : Room k X.A) (hb : Binds X.K fd ps []) (m : Meth X.K C "__eq__" f) (hI : InsF C sp) : OpR X (compareOp .Eq) (rEqO C sp) := by
  intro pins s σ H x y v u Q I rx ry h
  obtain ⟨⟨c, dy, gs, rfl, hc⟩, h⟩ := h
  obtain ⟨b, dx, fs, r, e, ha⟩ := hI _ _ _ _ h
  cases e
  obtain rfl : v = Value.ref b := rx
  obtain rfl : u = Value.ref c := ry
  obtain ⟨mA, J, _⟩ := L2.ins_get I.hok ha
  obtain ⟨mB, J2, _⟩ := L2.ins_get I.hok hc
  obtain ⟨od, J, _⟩ := J.look
  obtain ⟨od2, J2, _⟩ := J2.look
  obtain ⟨mm, hF⟩ := I.fr
  show wpAny (model X.prog X.w) X.A (richCompare .Eq (.ref b) (.ref c)) (EP X pins σ Q) X.xe s
  refine PySem.W.cmp_K (op := .Eq) (tb := .ref C) hr.units0 hF I.ok.mod.kin J J2.type (by simp [PySem.W.notFirst]) m.at_ m.fn ?_
  refine wpAny_mono (run_fn F hr hb .nil pass0 I (vs := [.ref b, .ref c]) (.cons rfl (.cons rfl .nil)) (by rw [List.append_nil]; exact h)) (fun r s' q => ?_) fun _ _ z => z
  obtain ⟨v', H', I', rv, kk, rfl, q⟩ := q
  cases rv
  exact ⟨.bl kk, H', I', rfl, q⟩
theorem op_neO (F : FnOk X.prog X.w X.K X.mg X.base CX0 k f fd ps sp) (hr : Room (k + 1) X.A) (hb : Binds X.K fd ps []) (m : Meth X.K C "__eq__" f) (hI : InsF C sp) (hn : PySem.W.findIn X.K (.ref C) "__ne__" = some (some (.builtin "object.__ne__"))) (hm : PySem.W.mroIn X.K C (.type "object") = some true) :
    OpR X (compareOp .NotEq) (rNeO C sp) := by
  intro pins s σ H x y v u Q I rx ry h
  obtain ⟨⟨c, dy, gs, rfl, hc⟩, h⟩ := h
  obtain ⟨b, dx, fs, r, e, ha⟩ := hI _ _ _ _ h
  cases e
  obtain rfl : v = Value.ref b := rx
  obtain rfl : u = Value.ref c := ry
  obtain ⟨mA, J, _⟩ := L2.ins_get I.hok ha
  obtain ⟨mB, J2, _⟩ := L2.ins_get I.hok hc
  obtain ⟨od, J, _⟩ := J.look
  obtain ⟨od2, J2, _⟩ := J2.look
  obtain ⟨mm, hF⟩ := I.fr
  show wpAny (model X.prog X.w) X.A (richCompare .NotEq (.ref b) (.ref c)) (EP X pins σ Q) X.xe s
  refine neK hr.units0 hr.in1.units0 hF I.ok.mod.kin J J2.type hn hm m.at_ m.fn ?_
  have hl := F.len _ _ _ _ h
  refine wpAny_call (codeAny_mono (F.run X.A.in1 X.stack s H ⟨[.ref b, .ref c], []⟩ [.ref b, .ref c] [.ref b, .ref c] _ E0 hr.in1 I.env0.in1 (by
    have := hb s [.ref b, .ref c] I.kIn (by simpa using hl)
    simpa using this) (.cons rfl (.cons rfl .nil)) h) fun r s' hq => ?_)
  cases r with
  | error e => exact pass0 pins σ H s e s' I hq
  | ok fl =>
    cases fl with
    | ret w =>
      obtain ⟨z, H', I', rz, kk, ez, q⟩ := I.after hq
      subst ez
      cases rz
      exact ⟨kk, rfl, .bl (!kk), H', I', rfl, q⟩
    | next => exact False.elim hq
    | brk => exact False.elim hq
    | cont => exact False.elim hq
end
section
open PySem L2
open PySem.W (Frag)
variable {K : Frag} {W : Wd} {Γ : Gm} {κ : A → Prop} {pre : Wd → List A → (A → Prop) → Prop} {x y : A} {C : Addr} {P : V → Hp → Prop}
theorem bl_has {H : Hp} {v : V} {k : Bool} (h : Has K W H v (.d (.bool k))) : v = .bl k := by
  cases h
  rfl
theorem rd_notInO (h : pre W [y, x] fun a => ∃ k, a = .d (.bool k) ∧ κ (.d (.bool (!k)))) : RD K W Γ (rNotInO (spD K pre)) x y κ := fun σ v u H Q e hv hu s q =>
  ⟨W, _, _, s, .cons hu (.cons hv .nil), h, fun z H' a r s' ha _ k => by
    obtain ⟨b, rfl, k⟩ := k
    exact ⟨b, bl_has ha, q _ H' (.d _) r s' (Rt.bl _) k⟩⟩
theorem rd_eqO (hP : ∀ v H, P v H → ∃ b dx fs, v = .ref b ∧ H b = some (.ins C dx fs)) (h : pre W [x, .p P] fun a => ∃ k, a = .d (.bool k) ∧ κ (.d (.bool k))) : RD K W Γ (rEqO C (spD K pre)) x (.p P) κ := fun σ v u H Q e hv hu s q =>
  ⟨hP u H (hu H (Kp.refl H)), W, _, _, s, .cons hv (.cons hu .nil), h, fun z H' a r s' ha _ k => by
    obtain ⟨b, rfl, k⟩ := k
    exact ⟨b, bl_has ha, q _ H' (.d _) r s' (Rt.bl _) k⟩⟩
theorem rd_neO (hP : ∀ v H, P v H → ∃ b dx fs, v = .ref b ∧ H b = some (.ins C dx fs)) (h : pre W [x, .p P] fun a => ∃ k, a = .d (.bool k) ∧ κ (.d (.bool (!k)))) : RD K W Γ (rNeO C (spD K pre)) x (.p P) κ := fun σ v u H Q e hv hu s q =>
  ⟨hP u H (hu H (Kp.refl H)), W, _, _, s, .cons hv (.cons hu .nil), h, fun z H' a r s' ha _ k => by
    obtain ⟨b, rfl, k⟩ := k
    exact ⟨b, bl_has ha, q _ H' (.d _) r s' (Rt.bl _) k⟩⟩
/-- what comes first is an instance -/
theorem insF {C : Addr} (h : ∀ W as κ, pre W as κ → ∃ P r, as = .p P :: r ∧ ∀ v H, P v H → ∃ b dx fs, v = .ref b ∧ H b = some (.ins C dx fs)) : InsF C (spD K pre) := fun vs H Q E ⟨W, as, κ, _, hv, hp, _⟩ => by
  obtain ⟨P, r, rfl, hP⟩ := h W as κ hp
  cases hv with
  | cons h1 h2 =>
    obtain ⟨b, dx, fs, rfl, hb⟩ := hP _ H (h1 H (Kp.refl H))
    exact ⟨b, dx, fs, _, rfl, hb⟩
theorem insF_in : InsF (He.ga K "House") (spD K (preIn K)) := insF fun W as κ ⟨h, i, e, _⟩ => ⟨_, _, e, insH⟩
theorem insF_eqH : InsF (He.ga K "House") (spD K (preEqH K)) := insF fun W as κ ⟨h, e, _⟩ => ⟨_, _, e, insH⟩
end
section
open PySem L2
open PySem.W (Frag)
variable {X : Cx} {c : Str} {ps : List Str} {sp : Sp} {k : Nat}
theorem op_notInOk (F : Ok X.prog X.w X.K X.mg X.base k (c, some "__contains__") ps sp) (hr : Room k X.A) (m : Meth X.K (He.ga X.K c) "__contains__" (He.fAd X.K (c, some "__contains__"))) (hI : InsF (He.ga X.K c) sp) : OpR X (compareOp .NotIn) (rNotInO sp) :=
  let ⟨_, F', b, _⟩ := F
  op_notInO F' hr b m hI
theorem op_eqOk (F : Ok X.prog X.w X.K X.mg X.base k (c, some "__eq__") ps sp) (hr : Room k X.A) (m : Meth X.K (He.ga X.K c) "__eq__" (He.fAd X.K (c, some "__eq__"))) (hI : InsF (He.ga X.K c) sp) : OpR X (compareOp .Eq) (rEqO (He.ga X.K c) sp) :=
  let ⟨_, F', b, _⟩ := F
  op_eqO F' hr b m hI
theorem op_neOk (F : Ok X.prog X.w X.K X.mg X.base k (c, some "__eq__") ps sp) (hr : Room (k + 1) X.A) (m : Meth X.K (He.ga X.K c) "__eq__" (He.fAd X.K (c, some "__eq__"))) (hI : InsF (He.ga X.K c) sp) (hn : PySem.W.findIn X.K (.ref (He.ga X.K c)) "__ne__" = some (some (.builtin "object.__ne__")))
    (ic : C8.InsC X.K (He.ga X.K c)) : OpR X (compareOp .NotEq) (rNeO (He.ga X.K c) sp) :=
  let ⟨_, F', b, _⟩ := F
  op_neO F' hr b m hI hn ic.hm
end
end Q47
set_option maxHeartbeats 4000000
/-! ### what is asked of deeds, sights, rows -/
namespace Q47
open PySem L2
open PySem.W (Frag)
open PyProof.Rows (envOfC)
local macro_rules | `(tactic| walk_at "kit") => `(tactic| first | with_reducible exact kit_int_int | with_reducible exact kit_int_bool | with_reducible exact kit_int_str | with_reducible exact kit_int_tuple | with_reducible exact kit_int_list | with_reducible exact kit_int_dict | with_reducible exact kit_str_int | with_reducible exact kit_str_bool | with_reducible exact kit_str_str | with_reducible exact kit_str_tuple | with_reducible exact kit_str_list | with_reducible exact kit_str_dict | with_reducible exact kit_tuple_int | with_reducible exact kit_tuple_bool | with_reducible exact kit_tuple_str | with_reducible exact kit_tuple_tuple | with_reducible exact kit_tuple_list | with_reducible exact kit_tuple_dict | with_reducible exact kit_list_int | with_reducible exact kit_list_bool | with_reducible exact kit_list_str | with_reducible exact kit_list_tuple | with_reducible exact kit_list_list | with_reducible exact kit_list_dict)
local macro_rules | `(tactic| walk_at "shp") => `(tactic| first
  | with_reducible exact (shp_int _).ok
  | with_reducible exact (shp_pl _).ok
  | with_reducible exact (shp_bool _).ok
  | with_reducible exact (shp_it _).ok
  | with_reducible exact (shp_str (by decide +kernel)).ok
  | with_reducible exact (shp_2 (shp_str (by decide +kernel)) (shp_int _)).ok
  | with_reducible exact (shp_st _).ok
  | with_reducible exact (shp_str (kd_ok _)).ok
  | with_reducible exact (shp_str (pl_ok _)).ok
  | with_reducible exact (shp_pls _).ok
  | with_reducible exact (shp_hs _).ok
  | with_reducible exact shp_nil.ok
  | with_reducible exact (shp_dd _).ok
  | with_reducible exact (shp_sg _).ok
  | with_reducible exact (shp_rw _).ok
  | assumption)
local macro_rules | `(tactic| walk_at "ed") => `(tactic| first
  | ((with_reducible refine' ed_var ?hv ?_); (case hv => exact rfl))
  | with_reducible refine ed_int ?_
  | with_reducible refine ed_str ?_
  | with_reducible refine ed_bl ?_
  | with_reducible refine ed_non ?_
  | with_reducible refine edd_cons ?_
  | with_reducible refine edd_nil ?_
  | with_reducible refine eda_cons ?_
  | with_reducible refine eda_nil ?_
  | with_reducible refine ⟨_, rfl, _, fldH1 ‹_›, ?_⟩
  | with_reducible refine ⟨_, rfl, _, fldH2 ‹_›, ?_⟩
  | with_reducible refine ⟨_, rfl, _, fldH3 ‹_›, ?_⟩
  | with_reducible refine ⟨_, rfl, _, fldH4 ‹_›, ?_⟩
  | with_reducible refine ⟨_, rfl, insH, ?_⟩
  | with_reducible refine ⟨_, rfl, ?_⟩
  | with_reducible refine ⟨_, _, rfl, ?_⟩
  | with_reducible refine ⟨_, _, _, rfl, ?_⟩
  | with_reducible refine ed_tupD ?_
  | with_reducible refine ed_lstD ?_
  | with_reducible refine ed_op ?_
  | with_reducible refine ed_chain ?_
  | with_reducible refine ed_fld ?_
  | with_reducible refine ed_prop ?_
  | with_reducible refine ed_meth ?_
  | with_reducible refine gd_tup rfl ?_
  | with_reducible refine gds_cons ?_
  | with_reducible refine gds_nil ?_
  | with_reducible refine ed_slHi ?_
  | with_reducible refine ed_slLo ?_
  | ((with_reducible refine' cd_isiI ?hb ?_); (case hb => walk_at "kit"))
  | ((with_reducible refine' cd_isiS ?hb ?_); (case hb => walk_at "kit"))
  | ((with_reducible refine' cd_isiT ?hb ?_); (case hb => walk_at "kit"))
  | ((with_reducible refine' cd_isiL ?hb ?_); (case hb => walk_at "kit"))
  | with_reducible refine ed_ty ?_
  | with_reducible refine fun (_ : NewA _ _ _) => ?_
  | with_reducible refine ed_lstRg ?_
  | with_reducible refine ed_cb ?_
  | with_reducible refine ed_call ?_
  | with_reducible refine ed_and ?_
  | with_reducible refine ed_or ?_
  | with_reducible refine ed_not ?_
  | with_reducible refine ed_if ?_
  | with_reducible refine td_test ?_
  | with_reducible refine td_B ?_
  | with_reducible refine td_and ?_
  | with_reducible refine td_or ?_
  | with_reducible refine td_not ?_
  | with_reducible refine td_yes ?_
  | with_reducible refine rd_I0 ?_
  | with_reducible refine rd_eqT ?_
  | with_reducible refine rd_neT ?_
  | with_reducible refine rd_B0 ?_
  | ((with_reducible refine rd_eq ?hx ?hy ?_); (case hx => walk_at "shp"); (case hy => walk_at "shp"))
  | ((with_reducible refine rd_ne ?hx ?hy ?_); (case hx => walk_at "shp"); (case hy => walk_at "shp"))
  | ((with_reducible refine' rd_ixTi ?h0 ?hi ?_); (case h0 => decide); (case hi => exact rfl))
  | ((with_reducible refine len_ok ?hl ?_); (case hl => exact rfl))
  | ((with_reducible refine ed_dsel3 ?a12 ?a13 ?a23 ?_); (case a12 => decide +kernel); (case a13 => decide +kernel); (case a23 => decide +kernel))
  | with_reducible refine fun _ (_ : New _ _ _) => ?_
  | with_reducible refine cd_lenK (.inr ⟨_, rfl, ?_⟩)
  | with_reducible refine cd_lenK (.inl ⟨_, _, rfl, ?_⟩)
  | with_reducible refine cd_tupleK ?_
  | ((with_reducible refine if_t ?hc ?_); (case hc => first | rfl | decide +kernel))
  | ((with_reducible refine if_f ?hc ?_); (case hc => first | rfl | decide +kernel))
  | with_reducible refine sd_par ?_
  | with_reducible refine sd_par3 ?_
  | with_reducible refine sd_next ?_
  | with_reducible refine sd_ret ?_
  | with_reducible refine sd_drop ?_
  | with_reducible refine sd_seq ?_
  | with_reducible refine sd_asg ?_
  | with_reducible refine gd_name ?_
  | with_reducible refine sd_if ?_)
local macro_rules | `(tactic| walk_at "out") => `(tactic| exact ⟨by assumption, fun _ _ z => by cases z⟩)
local macro_rules | `(tactic| walk_at "eds") => `(tactic| repeat walk_at "ed")

section
variable {P : Program} {w : World} {K : Frag} {mg : Str → Option Value} {base : Heap}
theorem cut2 {a b : PyData} {r : List PyData} : cutD (a :: b :: r) none (some (2 : Int)) = [a, b] := by
  unfold cutD
  rw [HT.sIx_none, show (some (2 : Int)) = some ((2 : Nat) : Int) from rfl, HT.sIx_nat]
  simp
abbrev s_validate_hand : Stmt := topS 32
abbrev N_validate_hand : List Str := ["house", "hand"]
theorem sc_validate_hand : FnScope N_validate_hand ["house", "hand"] (defScope s_validate_hand) := ⟨rfl, rfl, rfl, by decide +kernel, rfl, by decide +kernel, by decide +kernel⟩
abbrev preVH (K : Frag) : Wd → List A → (A → Prop) → Prop := fun _ as κ => ∃ (h : Hs) (x : Nat), as = [.p (HouseAt K h), .d (.int (x : Int))] ∧ x < h.hands ∧ κ (.d .none)
theorem ok_vh (T : Tx K mg) : Ok P w K mg base 3 ("validate_hand", none) ["house", "hand"] (spD K (preVH K)) := by
  have f_is_number : Ok P w K mg base 1 ("is_number", none) ["value", "lowest", "highest"] (spD K preNum) := ok_num T
  have f_House_hands := ok_H_hands (P := P) (w := w) (base := base) T
  refine okD T.d_validate_hand sc_validate_hand (fun _ _ _ _ _ _ us hl => match us, hl with | [_, _], _ => rfl) (fun _ _ _ ⟨_, _, e, _⟩ => by rw [e]; rfl) (fun _ _ _ _ h => h) fun f cdv Ar outer s H E hr W as κ ⟨h, x, e, hx, k⟩ => ?_
  subst e
  refine ⟨_, (pss_one (ps_if (pt_not (pt_val (pe_cf f_is_number (hr.mono (by decide)) T.g_is_number (pa_cons (pv 1) (pa_cons pe_int (pa_cons (pe_op op_sub (pe_pr f_House_hands T.c_House (hr.mono (by decide)) (pv 0)) pe_int) pa_nil)))))) pss_never pss_nil)), ?_⟩
  walk_at "eds"
  refine ⟨_, _, _, rfl, fun _ => ?_⟩
  rw [num_ok hx]
  walk_at "eds"
  exact k
abbrev s_validate_box : Stmt := topS 33
abbrev N_validate_box : List Str := ["house", "box"]
theorem sc_validate_box : FnScope N_validate_box ["house", "box"] (defScope s_validate_box) := ⟨rfl, rfl, rfl, by decide +kernel, rfl, by decide +kernel, by decide +kernel⟩
abbrev preVB (K : Frag) : Wd → List A → (A → Prop) → Prop := fun _ as κ => ∃ (h : Hs) (x : Nat), as = [.p (HouseAt K h), .d (.int (x : Int))] ∧ x < h.boxes.length ∧ κ (.d .none)
theorem ok_vb (T : Tx K mg) : Ok P w K mg base 3 ("validate_box", none) ["house", "box"] (spD K (preVB K)) := by
  have f_is_number : Ok P w K mg base 1 ("is_number", none) ["value", "lowest", "highest"] (spD K preNum) := ok_num T
  have f_House_boxes := ok_H_boxes (P := P) (w := w) (base := base) T
  refine okD T.d_validate_box sc_validate_box (fun _ _ _ _ _ _ us hl => match us, hl with | [_, _], _ => rfl) (fun _ _ _ ⟨_, _, e, _⟩ => by rw [e]; rfl) (fun _ _ _ _ h => h) fun f cdv Ar outer s H E hr W as κ ⟨h, x, e, hx, k⟩ => ?_
  subst e
  refine ⟨_, (pss_one (ps_if (pt_not (pt_val (pe_cf f_is_number (hr.mono (by decide)) T.g_is_number (pa_cons (pv 1) (pa_cons pe_int (pa_cons (pe_op op_sub (pe_callB (call_lenK K) (by rfl) T.b_len (by decide +kernel) (pa_cons (pe_pr f_House_boxes T.c_House (hr.mono (by decide)) (pv 0)) pa_nil)) pe_int) pa_nil)))))) pss_never pss_nil)), ?_⟩
  walk_at "eds"
  rw [List.length_map]
  refine ⟨_, _, _, rfl, fun _ => ?_⟩
  rw [num_ok hx]
  walk_at "eds"
  exact k
abbrev s_validate_seal : Stmt := topS 34
abbrev N_validate_seal : List Str := ["house", "seal"]
theorem sc_validate_seal : FnScope N_validate_seal ["house", "seal"] (defScope s_validate_seal) := ⟨rfl, rfl, rfl, by decide +kernel, rfl, by decide +kernel, by decide +kernel⟩
abbrev preVS (K : Frag) : Wd → List A → (A → Prop) → Prop := fun _ as κ => ∃ (h : Hs) (x : Nat), as = [.p (HouseAt K h), .d (.int (x : Int))] ∧ x < h.seals.length ∧ κ (.d .none)
theorem ok_vs (T : Tx K mg) : Ok P w K mg base 3 ("validate_seal", none) ["house", "seal"] (spD K (preVS K)) := by
  have f_is_number : Ok P w K mg base 1 ("is_number", none) ["value", "lowest", "highest"] (spD K preNum) := ok_num T
  have f_House_seals := ok_H_seals (P := P) (w := w) (base := base) T
  refine okD T.d_validate_seal sc_validate_seal (fun _ _ _ _ _ _ us hl => match us, hl with | [_, _], _ => rfl) (fun _ _ _ ⟨_, _, e, _⟩ => by rw [e]; rfl) (fun _ _ _ _ h => h) fun f cdv Ar outer s H E hr W as κ ⟨h, x, e, hx, k⟩ => ?_
  subst e
  refine ⟨_, (pss_one (ps_if (pt_not (pt_val (pe_cf f_is_number (hr.mono (by decide)) T.g_is_number (pa_cons (pv 1) (pa_cons pe_int (pa_cons (pe_op op_sub (pe_callB (call_lenK K) (by rfl) T.b_len (by decide +kernel) (pa_cons (pe_pr f_House_seals T.c_House (hr.mono (by decide)) (pv 0)) pa_nil)) pe_int) pa_nil)))))) pss_never pss_nil)), ?_⟩
  walk_at "eds"
  rw [List.length_map]
  refine ⟨_, _, _, rfl, fun _ => ?_⟩
  rw [num_ok hx]
  walk_at "eds"
  exact k
abbrev s_validate_item : Stmt := topS 35
abbrev N_validate_item : List Str := ["house", "item"]
theorem sc_validate_item : FnScope N_validate_item ["house", "item"] (defScope s_validate_item) := ⟨rfl, rfl, rfl, by decide +kernel, rfl, by decide +kernel, by decide +kernel⟩
abbrev preVI (K : Frag) : Wd → List A → (A → Prop) → Prop := fun _ as κ => ∃ (h : Hs) (i : It), as = [.p (HouseAt K h), .d i.e] ∧ ItOk h i ∧ κ (.d .none)
theorem ok_vi (T : Tx K mg) : Ok P w K mg base 3 ("validate_item", none) ["house", "item"] (spD K (preVI K)) := by
  have f_House___contains__ : Ok P w K mg base 2 ("House", some "__contains__") ["self", "item"] (spD K (preIn K)) := ok_contains T
  refine okD T.d_validate_item sc_validate_item (fun _ _ _ _ _ _ us hl => match us, hl with | [_, _], _ => rfl) (fun _ _ _ ⟨_, _, e, _⟩ => by rw [e]; rfl) (fun _ _ _ _ h => h) fun f cdv Ar outer s H E hr W as κ ⟨h, x, e, hx, k⟩ => ?_
  subst e
  refine ⟨_, (pss_one (ps_if (pt_cmpR (op_notInOk f_House___contains__ (hr.mono (by decide)) T.m_House___contains__ insF_in) (pv 1) (pv 0) (by rfl)) pss_never pss_nil)), ?_⟩
  walk_at "eds"
  refine rd_notInO ⟨h, x, rfl, hx, _, rfl, ?_⟩
  walk_at "eds"
  exact k
abbrev s_validate_movable : Stmt := topS 36
abbrev N_validate_movable : List Str := ["house", "item"]
theorem sc_validate_movable : FnScope N_validate_movable ["house", "item"] (defScope s_validate_movable) := ⟨rfl, rfl, rfl, by decide +kernel, rfl, by decide +kernel, by decide +kernel⟩
abbrev preVM (K : Frag) : Wd → List A → (A → Prop) → Prop := fun _ as κ => ∃ (h : Hs) (i : It), as = [.p (HouseAt K h), .d i.e] ∧ ItOk h i ∧ i.k ≠ .sl ∧ κ (.d .none)
theorem not_sl {i : It} (h : i.k ≠ .sl) : ¬ i.k.w = "seal" := by
  cases e : i.k with
  | sl => exact absurd e h
  | box => decide +kernel
  | thing => decide +kernel
theorem ok_vm (T : Tx K mg) : Ok P w K mg base 3 ("validate_movable", none) ["house", "item"] (spD K (preVM K)) := by
  have f_House___contains__ : Ok P w K mg base 2 ("House", some "__contains__") ["self", "item"] (spD K (preIn K)) := ok_contains T
  refine okD T.d_validate_movable sc_validate_movable (fun _ _ _ _ _ _ us hl => match us, hl with | [_, _], _ => rfl) (fun _ _ _ ⟨_, _, e, _⟩ => by rw [e]; rfl) (fun _ _ _ _ h => h) fun f cdv Ar outer s H E hr W as κ ⟨h, x, e, hx, hk, k⟩ => ?_
  subst e
  refine ⟨_, (pss_one (ps_if (PW.pt (pw_or (pt_cmpR (op_notInOk f_House___contains__ (hr.mono (by decide)) T.m_House___contains__ insF_in) (pv 1) (pv 0) (by rfl)) (pw_or1 (pt_cmpR (op_eqDK K hr.units) (pe_ix (ix_tupK K) (pv 1) pe_int (fun _ _ => rfl)) (pe_gS T.s_SEAL) (nomark _))))) pss_never pss_nil)), ?_⟩
  walk_at "eds"
  refine rd_notInO ⟨h, x, rfl, hx, _, rfl, ?_⟩
  walk_at "eds"
  rw [eqv_str, decide_eq_false (not_sl hk)]
  walk_at "eds"
  exact k
abbrev s_validate_deed : Stmt := topS 37
abbrev N_validate_deed : List Str := ["house", "deed", "word", "hand"]
theorem sc_validate_deed : FnScope N_validate_deed ["house", "deed"] (defScope s_validate_deed) := ⟨rfl, rfl, rfl, by decide +kernel, rfl, by decide +kernel, by decide +kernel⟩
abbrev preVD (K : Frag) : Wd → List A → (A → Prop) → Prop := fun _ as κ => ∃ (h : Hs) (d : Dd), as = [.p (HouseAt K h), .d d.e] ∧ DdOk h d ∧ κ (.d .none)
theorem ok_vd (T : Tx K mg) : Ok P w K mg base 4 ("validate_deed", none) ["house", "deed"] (spD K (preVD K)) := by
  have f_validate_hand : Ok P w K mg base 3 ("validate_hand", none) ["house", "hand"] (spD K (preVH K)) := ok_vh T
  have f_validate_box : Ok P w K mg base 3 ("validate_box", none) ["house", "box"] (spD K (preVB K)) := ok_vb T
  have f_validate_seal : Ok P w K mg base 3 ("validate_seal", none) ["house", "seal"] (spD K (preVS K)) := ok_vs T
  have f_validate_item : Ok P w K mg base 3 ("validate_item", none) ["house", "item"] (spD K (preVI K)) := ok_vi T
  have f_validate_movable : Ok P w K mg base 3 ("validate_movable", none) ["house", "item"] (spD K (preVM K)) := ok_vm T
  refine okD T.d_validate_deed sc_validate_deed (fun _ _ _ _ _ _ us hl => match us, hl with | [_, _], _ => rfl) (fun _ _ _ ⟨_, _, e, _⟩ => by rw [e]; rfl) (fun _ _ _ _ h => h) fun f cdv Ar outer s H E hr W as κ ⟨h, d, e, hd, k⟩ => ?_
  subst e
  refine ⟨_, (pss_cons (ps_asg (pe_slice (sl_tupAK K) (pv 1) po_none (po_some pe_int)) (pg_tupK (n := 2) K rfl (pgs_cons (pg_name (i := 2) sc_validate_deed.nd rfl (Or.inl rfl)) (pgs_cons (pg_name (i := 3) sc_validate_deed.nd rfl (Or.inl rfl)) pgs_nil))))
      (pss_cons (ps_expr (pe_cf f_validate_hand (hr.mono (by decide)) T.g_validate_hand (pa_cons (pv 0) (pa_cons (pv 3) pa_nil))))
      (pss_one (ps_if (pt_cmpR op_eq (pv 2) (pe_gS T.s_GIVE) (nomark _)) (pss_cons (ps_expr (pe_cf f_validate_item (hr.mono (by decide)) T.g_validate_item (pa_cons (pv 0) (pa_cons (pe_ix (ix_tupK K) (pv 1) pe_int (fun _ _ => rfl)) pa_nil))))
      (pss_cons (ps_expr (pe_cf f_validate_hand (hr.mono (by decide)) T.g_validate_hand (pa_cons (pv 0) (pa_cons (pe_ix (ix_tupK K) (pv 1) pe_int (fun _ _ => rfl)) pa_nil))))
      (pss_one (ps_if (pt_cmpR (op_eqDK K hr.units) (pe_ix (ix_tupK K) (pv 1) pe_int (fun _ _ => rfl)) (pv 3) (nomark _)) pss_never pss_nil)))) (pss_one (ps_if (pt_cmpR (op_in_seqK K) (pv 2) (pe_tup (pa_cons (pe_gS T.s_PUT) (pa_cons (pe_gS T.s_TAKE) pa_nil))) (by rfl)) (pss_cons (ps_expr (pe_cf f_validate_movable (hr.mono (by decide)) T.g_validate_movable (pa_cons (pv 0) (pa_cons (pe_ix (ix_tupK K) (pv 1) pe_int (fun _ _ => rfl)) pa_nil))))
      (pss_cons (ps_expr (pe_cf f_validate_box (hr.mono (by decide)) T.g_validate_box (pa_cons (pv 0) (pa_cons (pe_ix (ix_tupK K) (pv 1) pe_int (fun _ _ => rfl)) pa_nil))))
      (pss_one (ps_if (pt_cmpR (op_eqDK K hr.units) (pe_ix (ix_tupK K) (pv 1) pe_int (fun _ _ => rfl)) (pe_tup (pa_cons (pe_gS T.s_BOX) (pa_cons (pe_ix (ix_tupK K) (pv 1) pe_int (fun _ _ => rfl)) pa_nil))) (nomark _)) pss_never pss_nil)))) (pss_cons (ps_expr (pe_cf f_validate_box (hr.mono (by decide)) T.g_validate_box (pa_cons (pv 0) (pa_cons (pe_ix (ix_tupK K) (pv 1) pe_int (fun _ _ => rfl)) pa_nil))))
      (pss_one (ps_if (pt_cmpR op_eq (pv 2) (pe_gS T.s_SEAL_ON) (nomark _)) (pss_one (ps_expr (pe_cf f_validate_seal (hr.mono (by decide)) T.g_validate_seal (pa_cons (pv 0) (pa_cons (pe_ix (ix_tupK K) (pv 1) pe_int (fun _ _ => rfl)) pa_nil))))) pss_nil))))))))), ?_⟩
  cases d with
  | give x i o =>
    dsimp only [Dd.e]
    walk_at "eds"
    rw [cut2]
    walk_at "eds"
    refine ⟨hd.1, fun _ => ?_⟩
    walk_at "eds"
    refine ⟨hd.2.1, fun _ => ?_⟩
    walk_at "eds"
    refine ⟨hd.2.2.1, fun _ => ?_⟩
    walk_at "eds"
    rw [eqv_nat, decide_eq_false hd.2.2.2]
    walk_at "eds"
    exact k
  | put x i b =>
    dsimp only [Dd.e]
    walk_at "eds"
    rw [cut2]
    walk_at "eds"
    refine ⟨hd.1, fun _ => ?_⟩
    walk_at "eds"
    refine rd_in (xs := ["put", "take"]) ?_
    walk_at "eds"
    refine ⟨hd.2.1, hd.2.2.1, fun _ => ?_⟩
    walk_at "eds"
    refine ⟨hd.2.2.2.1, fun _ => ?_⟩
    walk_at "eds"
    rw [show (PyData.tuple [.str "box", .int (b : Int)]) = It.e ⟨.box, b⟩ from rfl, eqv_it, decide_eq_false hd.2.2.2.2]
    walk_at "eds"
    exact k
  | take x i b =>
    dsimp only [Dd.e]
    walk_at "eds"
    rw [cut2]
    walk_at "eds"
    refine ⟨hd.1, fun _ => ?_⟩
    walk_at "eds"
    refine rd_in (xs := ["put", "take"]) ?_
    walk_at "eds"
    refine ⟨hd.2.1, hd.2.2.1, fun _ => ?_⟩
    walk_at "eds"
    refine ⟨hd.2.2.2.1, fun _ => ?_⟩
    walk_at "eds"
    rw [show (PyData.tuple [.str "box", .int (b : Int)]) = It.e ⟨.box, b⟩ from rfl, eqv_it, decide_eq_false hd.2.2.2.2]
    walk_at "eds"
    exact k
  | sl x b s =>
    dsimp only [Dd.e]
    walk_at "eds"
    rw [cut2]
    walk_at "eds"
    refine ⟨hd.1, fun _ => ?_⟩
    walk_at "eds"
    refine rd_in (xs := ["put", "take"]) ?_
    walk_at "eds"
    refine ⟨hd.2.1, fun _ => ?_⟩
    walk_at "eds"
    refine ⟨hd.2.2, fun _ => ?_⟩
    exact k
  | brk x b =>
    dsimp only [Dd.e]
    walk_at "eds"
    rw [cut2]
    walk_at "eds"
    refine ⟨hd.1, fun _ => ?_⟩
    walk_at "eds"
    refine rd_in (xs := ["put", "take"]) ?_
    walk_at "eds"
    refine ⟨hd.2, fun _ => ?_⟩
    walk_at "eds"
    exact k
/-! contents -/
theorem it_lt {a b : It} (h : ItLt a b) : PySem.W.dataLt a.e b.e = true := by
  have al : PySem.W.alike (.str a.k.w) (.str b.k.w) = true := by simp [PySem.W.alike]
  rw [PySem.W.dataLt_tuple]
  rcases h with ⟨h1, h2⟩ | ⟨h1, h2⟩
  · rw [PySem.W.dataLt_all_no al (by rw [h1, h2]; decide +kernel), PySem.W.dataLt_str, h1, h2]
    decide +kernel
  · rw [PySem.W.dataLt_all_yes al (by rw [h1, eqv_str, decide_eq_true rfl]), PySem.W.dataLt_all_no (by simp [PySem.W.alike]) (by rw [eqv_nat]; exact decide_eq_false (by omega)), PySem.W.dataLt_int]
    exact decide_eq_true (by omega)
abbrev s_validate_contents : Stmt := topS 39
abbrev N_validate_contents : List Str := ["house", "items", "index", "item"]
theorem sc_validate_contents : FnScope N_validate_contents ["house", "items"] (defScope s_validate_contents) := ⟨rfl, rfl, rfl, by decide +kernel, rfl, by decide +kernel, by decide +kernel⟩
abbrev preVC (K : Frag) : Wd → List A → (A → Prop) → Prop := fun _ as κ => ∃ (h : Hs) (is : List It), as = [.p (HouseAt K h), .d (itsE is)] ∧ ((∀ i ∈ is, ItOk h i ∧ i.k ≠ .sl) ∧ ∀ (m : Nat) i j, is[m]? = some i → is[m + 1]? = some j → ItLt i j) ∧ κ (.d .none)
theorem ok_vc (T : Tx K mg) : Ok P w K mg base 4 ("validate_contents", none) ["house", "items"] (spD K (preVC K)) := by
  have f_validate_movable : Ok P w K mg base 3 ("validate_movable", none) ["house", "item"] (spD K (preVM K)) := ok_vm T
  refine okD T.d_validate_contents sc_validate_contents (fun _ _ _ _ _ _ us hl => match us, hl with | [_, _], _ => rfl) (fun _ _ _ ⟨_, _, e, _⟩ => by rw [e]; rfl) (fun _ _ _ _ h => h) fun f cdv Ar outer s H E hr W as κ ⟨h, is, e, ⟨hi, hl⟩, k⟩ => ?_
  subst e
  refine ⟨_, (pss_one (ps_for PassesOwn.never rfl (pi_enumTK K rfl T.b_enumerate (pa_cons (pv 1) pa_nil)) (pg_tupK (n := 2) K rfl (pgs_cons (pg_name (i := 2) sc_validate_contents.nd rfl (Or.inl rfl)) (pgs_cons (pg_name (i := 3) sc_validate_contents.nd rfl (Or.inl rfl)) pgs_nil))) (pss_cons (ps_expr (pe_cf f_validate_movable (hr.mono (by decide)) T.g_validate_movable (pa_cons (pv 0) (pa_cons (pv 3) pa_nil))))
      (pss_one (ps_if (PW.pt (pw_and (pt_cmpR op_gt (pv 2) pe_int (nomark _)) (pw_and1 (pt_cmpR (op_leDK K hr.units) (pv 3) (pe_ix (ix_tupK K) (pv 1) (pe_op op_sub (pv 2) pe_int) (fun _ _ => rfl)) (nomark _))))) pss_never pss_nil))))), ?_⟩
  refine sd_forET (ds := is.map It.e) (fun i Γ' => ∃ x y, Γ' = [some (.p (HouseAt K h)), some (.d (itsE is)), x, y]) (eda_cons (ed_var rfl (eda_nil rfl))) ⟨none, none, rfl⟩ (fun i d Γ' hd ⟨x, y, e⟩ => ?_) fun Γ' _ => k
  subst e
  obtain ⟨it, hit, rfl⟩ := map_at' hd
  walk_at "eds"
  have hm := hi it (List.mem_of_getElem? hit)
  refine ⟨hm.1, hm.2, fun _ => ?_⟩
  walk_at "eds"
  refine if_dec (fun h0 => ?_) fun _ => ?_
  · walk_at "eds"
    obtain ⟨j, rfl⟩ : ∃ j, i = j + 1 := ⟨i - 1, by omega⟩
    have hj : j < is.length := by
      have := (List.getElem?_eq_some_iff.mp hit).1
      omega
    rw [show ((j + 1 : Nat) : Int) - 1 = (j : Int) by omega]
    refine rd_ixT (map_at (List.getElem?_eq_getElem hj)) ?_
    refine rd_leD (by simp [PySem.W.alike, PySem.W.alikeAll]) (fun z => by cases z) (Nat.le_trans (shp_it it).2 (by decide)) ?_
    rw [it_lt (hl j _ _ (List.getElem?_eq_getElem hj) hit)]
    walk_at "eds"
    exact ⟨_, _, rfl⟩
  · walk_at "eds"
    exact ⟨_, _, rfl⟩
abbrev s_validate_sight : Stmt := topS 38
abbrev N_validate_sight : List Str := ["house", "sight", "word"]
theorem sc_validate_sight : FnScope N_validate_sight ["house", "sight"] (defScope s_validate_sight) := ⟨rfl, rfl, rfl, by decide +kernel, rfl, by decide +kernel, by decide +kernel⟩
abbrev preVG (K : Frag) : Wd → List A → (A → Prop) → Prop := fun _ as κ => ∃ (h : Hs) (g : Sg), as = [.p (HouseAt K h), .d g.e] ∧ SgOk h g ∧ κ (.d .none)
theorem ok_vg (T : Tx K mg) : Ok P w K mg base 5 ("validate_sight", none) ["house", "sight"] (spD K (preVG K)) := by
  have f_validate_hand : Ok P w K mg base 3 ("validate_hand", none) ["house", "hand"] (spD K (preVH K)) := ok_vh T
  have f_validate_box : Ok P w K mg base 3 ("validate_box", none) ["house", "box"] (spD K (preVB K)) := ok_vb T
  have f_validate_seal : Ok P w K mg base 3 ("validate_seal", none) ["house", "seal"] (spD K (preVS K)) := ok_vs T
  have f_validate_item : Ok P w K mg base 3 ("validate_item", none) ["house", "item"] (spD K (preVI K)) := ok_vi T
  have f_validate_contents : Ok P w K mg base 4 ("validate_contents", none) ["house", "items"] (spD K (preVC K)) := ok_vc T
  refine okD T.d_validate_sight sc_validate_sight (fun _ _ _ _ _ _ us hl => match us, hl with | [_, _], _ => rfl) (fun _ _ _ ⟨_, _, e, _⟩ => by rw [e]; rfl) (fun _ _ _ _ h => h) fun f cdv Ar outer s H E hr W as κ ⟨h, g, e, hg, k⟩ => ?_
  subst e
  refine ⟨_, (pss_cons (ps_set (i := 2) sc_validate_sight.nd rfl (Or.inl rfl) (pe_ix (ix_tupK K) (pv 1) pe_int (fun _ _ => rfl)))
      (pss_one (ps_if (pt_cmpR op_eq (pv 2) pe_str (nomark _)) pss_never (pss_one (ps_if (pt_cmpR op_eq (pv 2) pe_str (nomark _)) (pss_cons (ps_expr (pe_cf f_validate_item (hr.mono (by decide)) T.g_validate_item (pa_cons (pv 0) (pa_cons (pe_ix (ix_tupK K) (pv 1) pe_int (fun _ _ => rfl)) pa_nil))))
      (pss_one (ps_if (pt_cmpR (op_eqDK K hr.units) (pe_ix (ix_tupK K) (pe_ix (ix_tupK K) (pv 1) pe_int (fun _ _ => rfl)) pe_int (fun _ _ => rfl)) (pe_gS T.s_HAND) (nomark _)) (pss_one (ps_expr (pe_cf f_validate_hand (hr.mono (by decide)) T.g_validate_hand (pa_cons (pv 0) (pa_cons (pe_ix (ix_tupK K) (pe_ix (ix_tupK K) (pv 1) pe_int (fun _ _ => rfl)) pe_int (fun _ _ => rfl)) pa_nil))))) (pss_one (ps_expr (pe_cf f_validate_box (hr.mono (by decide)) T.g_validate_box (pa_cons (pv 0) (pa_cons (pe_ix (ix_tupK K) (pe_ix (ix_tupK K) (pv 1) pe_int (fun _ _ => rfl)) pe_int (fun _ _ => rfl)) pa_nil)))))))) (pss_one (ps_if (pt_cmpR op_eq (pv 2) pe_str (nomark _)) (pss_one (ps_expr (pe_cf f_validate_seal (hr.mono (by decide)) T.g_validate_seal (pa_cons (pv 0) (pa_cons (pe_ix (ix_tupK K) (pv 1) pe_int (fun _ _ => rfl)) pa_nil))))) (pss_cons (ps_expr (pe_cf f_validate_box (hr.mono (by decide)) T.g_validate_box (pa_cons (pv 0) (pa_cons (pe_ix (ix_tupK K) (pv 1) pe_int (fun _ _ => rfl)) pa_nil))))
      (pss_one (ps_if (pt_cmpR op_eq (pv 2) pe_str (nomark _)) (pss_one (ps_expr (pe_cf f_validate_contents (hr.mono (by decide)) T.g_validate_contents (pa_cons (pv 0) (pa_cons (pe_ix (ix_tupK K) (pv 1) pe_int (fun _ _ => rfl)) pa_nil))))) pss_nil)))))))))), ?_⟩
  cases g with
  | at_ i p =>
    dsimp only [Sg.e]
    walk_at "eds"
    refine ⟨hg.1, fun _ => ?_⟩
    cases p with
    | gone => exact hg.2.elim
    | hand n =>
      walk_at "eds"
      exact ⟨hg.2, fun _ => k⟩
    | box n =>
      walk_at "eds"
      exact ⟨hg.2, fun _ => k⟩
  | bare b =>
    dsimp only [Sg.e]
    walk_at "eds"
    refine ⟨hg, fun _ => ?_⟩
    walk_at "eds"
    exact k
  | inn b is =>
    dsimp only [Sg.e]
    walk_at "eds"
    refine ⟨hg.1, fun _ => ?_⟩
    walk_at "eds"
    exact ⟨⟨hg.2.1, hg.2.2.1⟩, fun _ => k⟩
  | gone s =>
    dsimp only [Sg.e]
    walk_at "eds"
    exact ⟨hg, fun _ => k⟩
abbrev preVN (K : Frag) : Wd → List A → (A → Prop) → Prop := fun _ as κ => ∃ (h : Hs) (g : Sg), as = [.p (HouseAt K h), .d (Rw.nots g).e] ∧ SgOk h g ∧ κ (.d .none)
theorem ok_vn (T : Tx K mg) : Ok P w K mg base 6 ("validate_sight", none) ["house", "sight"] (spD K (preVN K)) := by
  have f_validate_sight : Ok P w K mg base 5 ("validate_sight", none) ["house", "sight"] (spD K (preVG K)) := ok_vg T
  have f_validate_hand : Ok P w K mg base 3 ("validate_hand", none) ["house", "hand"] (spD K (preVH K)) := ok_vh T
  have f_validate_box : Ok P w K mg base 3 ("validate_box", none) ["house", "box"] (spD K (preVB K)) := ok_vb T
  have f_validate_seal : Ok P w K mg base 3 ("validate_seal", none) ["house", "seal"] (spD K (preVS K)) := ok_vs T
  have f_validate_item : Ok P w K mg base 3 ("validate_item", none) ["house", "item"] (spD K (preVI K)) := ok_vi T
  have f_validate_contents : Ok P w K mg base 4 ("validate_contents", none) ["house", "items"] (spD K (preVC K)) := ok_vc T
  refine okD T.d_validate_sight sc_validate_sight (fun _ _ _ _ _ _ us hl => match us, hl with | [_, _], _ => rfl) (fun _ _ _ ⟨_, _, e, _⟩ => by rw [e]; rfl) (fun _ _ _ _ h => h) fun f cdv Ar outer s H E hr W as κ ⟨h, g, e, hg, k⟩ => ?_
  subst e
  refine ⟨_, (pss_cons (ps_set (i := 2) sc_validate_sight.nd rfl (Or.inl rfl) (pe_ix (ix_tupK K) (pv 1) pe_int (fun _ _ => rfl)))
      (pss_one (ps_if (pt_cmpR op_eq (pv 2) pe_str (nomark _)) (pss_one (ps_expr (pe_cf f_validate_sight (hr.mono (by decide)) T.g_validate_sight (pa_cons (pv 0) (pa_cons (pe_ix (ix_tupK K) (pv 1) pe_int (fun _ _ => rfl)) pa_nil))))) (pss_one (ps_if (pt_cmpR op_eq (pv 2) pe_str (nomark _)) (pss_cons (ps_expr (pe_cf f_validate_item (hr.mono (by decide)) T.g_validate_item (pa_cons (pv 0) (pa_cons (pe_ix (ix_tupK K) (pv 1) pe_int (fun _ _ => rfl)) pa_nil))))
      (pss_one (ps_if (pt_cmpR (op_eqDK K hr.units) (pe_ix (ix_tupK K) (pe_ix (ix_tupK K) (pv 1) pe_int (fun _ _ => rfl)) pe_int (fun _ _ => rfl)) (pe_gS T.s_HAND) (nomark _)) (pss_one (ps_expr (pe_cf f_validate_hand (hr.mono (by decide)) T.g_validate_hand (pa_cons (pv 0) (pa_cons (pe_ix (ix_tupK K) (pe_ix (ix_tupK K) (pv 1) pe_int (fun _ _ => rfl)) pe_int (fun _ _ => rfl)) pa_nil))))) (pss_one (ps_expr (pe_cf f_validate_box (hr.mono (by decide)) T.g_validate_box (pa_cons (pv 0) (pa_cons (pe_ix (ix_tupK K) (pe_ix (ix_tupK K) (pv 1) pe_int (fun _ _ => rfl)) pe_int (fun _ _ => rfl)) pa_nil)))))))) (pss_one (ps_if (pt_cmpR op_eq (pv 2) pe_str (nomark _)) (pss_one (ps_expr (pe_cf f_validate_seal (hr.mono (by decide)) T.g_validate_seal (pa_cons (pv 0) (pa_cons (pe_ix (ix_tupK K) (pv 1) pe_int (fun _ _ => rfl)) pa_nil))))) (pss_cons (ps_expr (pe_cf f_validate_box (hr.mono (by decide)) T.g_validate_box (pa_cons (pv 0) (pa_cons (pe_ix (ix_tupK K) (pv 1) pe_int (fun _ _ => rfl)) pa_nil))))
      (pss_one (ps_if (pt_cmpR op_eq (pv 2) pe_str (nomark _)) (pss_one (ps_expr (pe_cf f_validate_contents (hr.mono (by decide)) T.g_validate_contents (pa_cons (pv 0) (pa_cons (pe_ix (ix_tupK K) (pv 1) pe_int (fun _ _ => rfl)) pa_nil))))) pss_nil)))))))))), ?_⟩
  dsimp only [Rw.e]
  walk_at "eds"
  exact ⟨hg, fun _ => k⟩
abbrev s_validate_row : Stmt := topS 40
abbrev N_validate_row : List Str := ["house", "row"]
theorem sc_validate_row : FnScope N_validate_row ["house", "row"] (defScope s_validate_row) := ⟨rfl, rfl, rfl, by decide +kernel, rfl, by decide +kernel, by decide +kernel⟩
abbrev preVR (K : Frag) : Wd → List A → (A → Prop) → Prop := fun _ as κ => ∃ (h : Hs) (r : Rw), as = [.p (HouseAt K h), .d r.e] ∧ RwOk h r ∧ (∀ hs, r ≠ .gap hs) ∧ κ (.d .none)
theorem ed_DEEDS {W : Wd} {Γ : Gm} {κ : A → Prop} (T : Tx K mg) (k : κ (.d (.tuple ((["break", "give", "put", "seal", "take"] : List Str).map PyData.str)))) : ED K W (tC (.ref (He.ga K "DEEDS"))) Γ κ := ed_ktup T.t_DEEDS (fun _ => RtA.strs) k
theorem vd_of {h : Hs} {d : Dd} {W : Wd} {κ : A → Prop} (hd : DdOk h d) (k : κ (.d .none)) : preVD K W [.p (HouseAt K h), .d d.e] κ := ⟨h, d, rfl, hd, k⟩
theorem vg_of {h : Hs} {g : Sg} {W : Wd} {κ : A → Prop} (hd : SgOk h g) (k : κ (.d .none)) : preVG K W [.p (HouseAt K h), .d g.e] κ := ⟨h, g, rfl, hd, k⟩
theorem ok_vr (T : Tx K mg) : Ok P w K mg base 7 ("validate_row", none) ["house", "row"] (spD K (preVR K)) := by
  have f_validate_deed : Ok P w K mg base 4 ("validate_deed", none) ["house", "deed"] (spD K (preVD K)) := ok_vd T
  refine okD T.d_validate_row sc_validate_row (fun _ _ _ _ _ _ us hl => match us, hl with | [_, _], _ => rfl) (fun _ _ _ ⟨_, _, e, _⟩ => by rw [e]; rfl) (fun _ _ _ _ h => h) fun f cdv Ar outer s H E hr W as κ ⟨h, r, e, hg, hn, k⟩ => ?_
  subst e
  cases r with
  | gap hs => exact absurd rfl (hn hs)
  | deed d =>
    have f_validate_sight : Ok P w K mg base 5 ("validate_sight", none) ["house", "sight"] (spD K (preVG K)) := ok_vg T
    refine ⟨_, (pss_one (ps_if (pt_cmpR (op_in_seqK K) (pe_ix (ix_tupK K) (pv 1) pe_int (fun _ _ => rfl)) (pe_gR T.g_DEEDS) (by rfl)) (pss_one (ps_expr (pe_cf f_validate_deed (hr.mono (by decide)) T.g_validate_deed (pa_cons (pv 0) (pa_cons (pv 1) pa_nil))))) (pss_one (ps_expr (pe_cf f_validate_sight (hr.mono (by decide)) T.g_validate_sight (pa_cons (pv 0) (pa_cons (pv 1) pa_nil))))))), ?_⟩
    have hd : DdOk h d := hg
    cases d <;> (dsimp only [Rw.e, Dd.e]; walk_at "eds"; refine ed_DEEDS T ?_; refine rd_in ?_; walk_at "eds"; refine vd_of hd ?_; exact fun _ => k)
  | sight g =>
    have f_validate_sight : Ok P w K mg base 5 ("validate_sight", none) ["house", "sight"] (spD K (preVG K)) := ok_vg T
    refine ⟨_, (pss_one (ps_if (pt_cmpR (op_in_seqK K) (pe_ix (ix_tupK K) (pv 1) pe_int (fun _ _ => rfl)) (pe_gR T.g_DEEDS) (by rfl)) (pss_one (ps_expr (pe_cf f_validate_deed (hr.mono (by decide)) T.g_validate_deed (pa_cons (pv 0) (pa_cons (pv 1) pa_nil))))) (pss_one (ps_expr (pe_cf f_validate_sight (hr.mono (by decide)) T.g_validate_sight (pa_cons (pv 0) (pa_cons (pv 1) pa_nil))))))), ?_⟩
    have hd : SgOk h g := hg
    cases g <;> (dsimp only [Rw.e, Sg.e]; walk_at "eds"; refine ed_DEEDS T ?_; refine rd_in ?_; walk_at "eds"; refine vg_of hd ?_; exact fun _ => k)
  | nots g =>
    have f_validate_sight : Ok P w K mg base 6 ("validate_sight", none) ["house", "sight"] (spD K (preVN K)) := ok_vn T
    refine ⟨_, (pss_one (ps_if (pt_cmpR (op_in_seqK K) (pe_ix (ix_tupK K) (pv 1) pe_int (fun _ _ => rfl)) (pe_gR T.g_DEEDS) (by rfl)) (pss_one (ps_expr (pe_cf f_validate_deed (hr.mono (by decide)) T.g_validate_deed (pa_cons (pv 0) (pa_cons (pv 1) pa_nil))))) (pss_one (ps_expr (pe_cf f_validate_sight (hr.mono (by decide)) T.g_validate_sight (pa_cons (pv 0) (pa_cons (pv 1) pa_nil))))))), ?_⟩
    dsimp only [Rw.e]
    walk_at "eds"
    refine ed_DEEDS T ?_
    refine rd_in ?_
    walk_at "eds"
    exact ⟨hg, fun _ => k⟩
abbrev s_validate_hands : Stmt := topS 24
abbrev N_validate_hands : List Str := ["house", "hands", "index", "hand"]
theorem sc_validate_hands : FnScope N_validate_hands ["house", "hands"] (defScope s_validate_hands) := ⟨rfl, rfl, rfl, by decide +kernel, rfl, by decide +kernel, by decide +kernel⟩
abbrev preVHs (K : Frag) : Wd → List A → (A → Prop) → Prop := fun _ as κ => ∃ (h : Hs) (hs : List Nat), as = [.p (HouseAt K h), .d (natsE hs)] ∧ RwOk h (.gap hs) ∧ κ (.d .none)
theorem ok_vhs (T : Tx K mg) : Ok P w K mg base 3 ("validate_hands", none) ["house", "hands"] (spD K (preVHs K)) := by
  have f_is_number : Ok P w K mg base 1 ("is_number", none) ["value", "lowest", "highest"] (spD K preNum) := ok_num T
  have f_House_hands := ok_H_hands (P := P) (w := w) (base := base) T
  refine okD T.d_validate_hands sc_validate_hands (fun _ _ _ _ _ _ us hl => match us, hl with | [_, _], _ => rfl) (fun _ _ _ ⟨_, _, e, _⟩ => by rw [e]; rfl) (fun _ _ _ _ h => h) fun f cdv Ar outer s H E hr W as κ ⟨h, hs, e, hg, k⟩ => ?_
  subst e
  refine ⟨_, (pss_one (ps_for PassesOwn.never rfl (pi_enumTK K rfl T.b_enumerate (pa_cons (pv 1) pa_nil)) (pg_tupK (n := 2) K rfl (pgs_cons (pg_name (i := 2) sc_validate_hands.nd rfl (Or.inl rfl)) (pgs_cons (pg_name (i := 3) sc_validate_hands.nd rfl (Or.inl rfl)) pgs_nil))) (pss_one (ps_if (PW.pt (pw_or (pt_not (pt_val (pe_cf f_is_number (hr.mono (by decide)) T.g_is_number (pa_cons (pv 3) (pa_cons pe_int (pa_cons (pe_op op_sub (pe_pr f_House_hands T.c_House (hr.mono (by decide)) (pv 0)) pe_int) pa_nil)))))) (pw_or1 (PW.pt (pw_and (pt_cmpR op_gt (pv 2) pe_int (nomark _)) (pw_and1 (pt_cmpR op_le (pv 3) (pe_ix (ix_tupK K) (pv 1) (pe_op op_sub (pv 2) pe_int) (fun _ _ => rfl)) (nomark _)))))))) pss_never pss_nil)))), ?_⟩
  refine sd_forET (ds := hs.map fun n : Nat => .int (n : Int)) (fun i Γ' => ∃ x y, Γ' = [some (.p (HouseAt K h)), some (.d (natsE hs)), x, y]) (eda_cons (ed_var rfl (eda_nil rfl))) ⟨none, none, rfl⟩ (fun i d Γ' hd ⟨x, y, e⟩ => ?_) fun Γ' _ => k
  subst e
  obtain ⟨it, hit, rfl⟩ := map_at' hd
  walk_at "eds"
  refine ⟨_, _, _, rfl, fun _ => ?_⟩
  rw [num_ok (hg.1 it (List.mem_of_getElem? hit))]
  walk_at "eds"
  refine if_dec (fun h0 => ?_) fun _ => ?_
  · walk_at "eds"
    obtain ⟨j, rfl⟩ : ∃ j, i = j + 1 := ⟨i - 1, by omega⟩
    have hj : j < hs.length := by
      have := (List.getElem?_eq_some_iff.mp hit).1
      omega
    rw [show ((j + 1 : Nat) : Int) - 1 = (j : Int) by omega]
    refine rd_ixT (map_at (List.getElem?_eq_getElem hj)) ?_
    walk_at "eds"
    have hlt := hg.2.1 j _ _ (List.getElem?_eq_getElem hj) hit
    rw [decide_eq_false (by omega)]
    walk_at "eds"
    exact ⟨_, _, rfl⟩
  · walk_at "eds"
    exact ⟨_, _, rfl⟩
end
end Q47
set_option maxHeartbeats 4000000
/-! ### House(..), Log(..) -/
namespace Q47
open PySem L2
open PySem.W (Frag)
open PyProof.Rows (envOfC)
local macro_rules | `(tactic| walk_at "kit") => `(tactic| first | with_reducible exact kit_int_int | with_reducible exact kit_int_bool | with_reducible exact kit_int_str | with_reducible exact kit_int_tuple | with_reducible exact kit_int_list | with_reducible exact kit_int_dict | with_reducible exact kit_str_int | with_reducible exact kit_str_bool | with_reducible exact kit_str_str | with_reducible exact kit_str_tuple | with_reducible exact kit_str_list | with_reducible exact kit_str_dict | with_reducible exact kit_tuple_int | with_reducible exact kit_tuple_bool | with_reducible exact kit_tuple_str | with_reducible exact kit_tuple_tuple | with_reducible exact kit_tuple_list | with_reducible exact kit_tuple_dict | with_reducible exact kit_list_int | with_reducible exact kit_list_bool | with_reducible exact kit_list_str | with_reducible exact kit_list_tuple | with_reducible exact kit_list_list | with_reducible exact kit_list_dict)
local macro_rules | `(tactic| walk_at "shp") => `(tactic| first
  | with_reducible exact (shp_int _).ok
  | with_reducible exact (shp_pl _).ok
  | with_reducible exact (shp_bool _).ok
  | with_reducible exact (shp_it _).ok
  | with_reducible exact (shp_str (by decide +kernel)).ok
  | with_reducible exact (shp_2 (shp_str (by decide +kernel)) (shp_int _)).ok
  | with_reducible exact (shp_st _).ok
  | with_reducible exact (shp_str (kd_ok _)).ok
  | with_reducible exact (shp_str (pl_ok _)).ok
  | with_reducible exact (shp_pls _).ok
  | with_reducible exact (shp_hs _).ok
  | with_reducible exact shp_nil.ok
  | with_reducible exact (shp_dd _).ok
  | with_reducible exact (shp_sg _).ok
  | with_reducible exact (shp_rw _).ok
  | assumption)
local macro_rules | `(tactic| walk_at "ed") => `(tactic| first
  | ((with_reducible refine' ed_var ?hv ?_); (case hv => exact rfl))
  | with_reducible refine ed_int ?_
  | with_reducible refine ed_str ?_
  | with_reducible refine ed_bl ?_
  | with_reducible refine ed_non ?_
  | with_reducible refine edd_cons ?_
  | with_reducible refine edd_nil ?_
  | with_reducible refine eda_cons ?_
  | with_reducible refine eda_nil ?_
  | with_reducible refine ⟨_, rfl, _, fldH1 ‹_›, ?_⟩
  | with_reducible refine ⟨_, rfl, _, fldH2 ‹_›, ?_⟩
  | with_reducible refine ⟨_, rfl, _, fldH3 ‹_›, ?_⟩
  | with_reducible refine ⟨_, rfl, _, fldH4 ‹_›, ?_⟩
  | with_reducible refine ⟨_, rfl, insH, ?_⟩
  | with_reducible refine ⟨_, rfl, ?_⟩
  | with_reducible refine ⟨_, _, rfl, ?_⟩
  | with_reducible refine ⟨_, _, _, rfl, ?_⟩
  | with_reducible refine ed_tupD ?_
  | with_reducible refine ed_lstD ?_
  | with_reducible refine ed_op ?_
  | with_reducible refine ed_chain ?_
  | with_reducible refine ed_fld ?_
  | with_reducible refine ed_prop ?_
  | with_reducible refine ed_meth ?_
  | with_reducible refine gd_tup rfl ?_
  | with_reducible refine gds_cons ?_
  | with_reducible refine gds_nil ?_
  | with_reducible refine ed_slHi ?_
  | with_reducible refine ed_slLo ?_
  | ((with_reducible refine' cd_isiI ?hb ?_); (case hb => walk_at "kit"))
  | ((with_reducible refine' cd_isiS ?hb ?_); (case hb => walk_at "kit"))
  | ((with_reducible refine' cd_isiT ?hb ?_); (case hb => walk_at "kit"))
  | ((with_reducible refine' cd_isiL ?hb ?_); (case hb => walk_at "kit"))
  | with_reducible refine ed_ty ?_
  | with_reducible refine fun (_ : NewA _ _ _) => ?_
  | with_reducible refine ed_lstRg ?_
  | with_reducible refine ed_cb ?_
  | with_reducible refine ed_call ?_
  | with_reducible refine ed_and ?_
  | with_reducible refine ed_or ?_
  | with_reducible refine ed_not ?_
  | with_reducible refine ed_if ?_
  | with_reducible refine td_test ?_
  | with_reducible refine td_B ?_
  | with_reducible refine td_and ?_
  | with_reducible refine td_or ?_
  | with_reducible refine td_not ?_
  | with_reducible refine td_yes ?_
  | with_reducible refine rd_I0 ?_
  | with_reducible refine rd_eqT ?_
  | with_reducible refine rd_neT ?_
  | with_reducible refine rd_B0 ?_
  | ((with_reducible refine rd_eq ?hx ?hy ?_); (case hx => walk_at "shp"); (case hy => walk_at "shp"))
  | ((with_reducible refine rd_ne ?hx ?hy ?_); (case hx => walk_at "shp"); (case hy => walk_at "shp"))
  | ((with_reducible refine' rd_ixTi ?h0 ?hi ?_); (case h0 => decide); (case hi => exact rfl))
  | ((with_reducible refine len_ok ?hl ?_); (case hl => exact rfl))
  | ((with_reducible refine ed_dsel3 ?a12 ?a13 ?a23 ?_); (case a12 => decide +kernel); (case a13 => decide +kernel); (case a23 => decide +kernel))
  | with_reducible refine fun _ (_ : New _ _ _) => ?_
  | with_reducible refine cd_lenK (.inr ⟨_, rfl, ?_⟩)
  | with_reducible refine cd_lenK (.inl ⟨_, _, rfl, ?_⟩)
  | with_reducible refine cd_tupleK ?_
  | ((with_reducible refine if_t ?hc ?_); (case hc => first | rfl | decide +kernel))
  | ((with_reducible refine if_f ?hc ?_); (case hc => first | rfl | decide +kernel))
  | with_reducible refine sd_par ?_
  | with_reducible refine sd_par3 ?_
  | with_reducible refine sd_next ?_
  | with_reducible refine sd_ret ?_
  | with_reducible refine sd_drop ?_
  | with_reducible refine sd_seq ?_
  | with_reducible refine sd_asg ?_
  | with_reducible refine gd_name ?_
  | with_reducible refine sd_if ?_)
local macro_rules | `(tactic| walk_at "out") => `(tactic| exact ⟨by assumption, fun _ _ z => by cases z⟩)
local macro_rules | `(tactic| walk_at "eds") => `(tactic| repeat walk_at "ed")

section
variable {K : Frag} {H H' : Hp}
mutual
theorem Rt.keepT (k : ∀ a xs, SqT K H a xs → SqT K H' a xs) : ∀ {v : V} {d : PyData}, Rt K H v d → Rt K H' v d
  | _, _, .non => .non
  | _, _, .bl b => .bl b
  | _, _, .int i => .int i
  | _, _, .str x => .str x
  | _, _, .tup h r => .tup (k _ _ h) (RtA.keepT k r)
theorem RtA.keepT (k : ∀ a xs, SqT K H a xs → SqT K H' a xs) : ∀ {vs : List V} {ds : List PyData}, RtA K H vs ds → RtA K H' vs ds
  | _, _, .nil => .nil
  | _, _, .cons h r => .cons (Rt.keepT k h) (RtA.keepT k r)
end
/-- all but x is kept, x no tuple -/
theorem sqT_but {x : Addr} {C dx : Addr} {fs : List (Str × V)} (hx : H x = some (.ins C dx fs)) (k : ∀ a o, a ≠ x → H a = some o → H' a = some o) : ∀ a xs, SqT K H a xs → SqT K H' a xs := fun a xs h => by
  rcases h with (h | ⟨o, h⟩) | h
  · exact .inl (.inl (k a _ (fun z => by rw [z, hx] at h; cases h) h))
  · exact .inl (.inr ⟨o, k a _ (fun z => by rw [z, hx] at h; cases h) h⟩)
  · exact .inr h
end
section
variable {K : Frag} {Γ : Gm} {N : Gm → Prop} {R : A → Prop} {t u : TS}
theorem putF_le {f : Str} {y : V} {fs : List (Str × V)} {n : Nat} (h : fs.length ≤ n) : (putF f y fs).length ≤ n + 1 := by
  have := length_putF f y fs
  omega
theorem at_S {H : Hp} : (W0.at H).S H := ⟨trivial, Ro.refl, trivial⟩
theorem has_W {H1 H2 H : Hp} {v : V} {a : A} (h : Has K (W0.at H1) H v a) : Has K (W0.at H2) H v a := by
  cases a <;> exact h
theorem en_W {H1 H2 H : Hp} {σ : St} (e : En K (W0.at H1) H σ Γ) : En K (W0.at H2) H σ Γ := ⟨e.len, fun i a h => let ⟨v, h1, h2⟩ := e.at_ i a h; ⟨v, h1, has_W h2⟩⟩
/-- a piece told by data, within one told by heaps -/
theorem raw_sd {σ : St} {H : Hp} {D : Ends} (sd : SD K (W0.at H) t Γ N R) (en : En K (W0.at H) H σ Γ) (hn : ∀ σ' H' Γ', (∀ a o, H a = some o → H' a = some o) → En K (W0.at H') H' σ' Γ' → N Γ' → D.nx σ' H')
    (hr : ∀ v H' a, (∀ a o, H a = some o → H' a = some o) → Has K (W0.at H') H' v a → R a → D.rt v H') : t D σ H := by
  have ext : ∀ {H'}, Rs (W0.at H) H H' → ∀ a o, H a = some o → H' a = some o := fun r a o e => r.old a o (by show H a ≠ none; rw [e]; exact fun z => by cases z) (fun z => z) e
  exact sd σ H D en at_S (fun σ' H' Γ' r _ e n => hn σ' H' Γ' (ext r) (en_W e) n) fun v H' a r _ ha k => hr v H' a (ext r) (has_W ha) k
theorem raw_seq (K : Frag) {t u : TS} {Γ : Gm} {N : Gm → Prop} {R : A → Prop} {σ : St} {H : Hp} {D : Ends} (sd : SD K (W0.at H) t Γ N R) (en : En K (W0.at H) H σ Γ) (hn : ∀ σ' H' Γ', (∀ a o, H a = some o → H' a = some o) → En K (W0.at H') H' σ' Γ' → N Γ' → u D σ' H')
    (hr : ∀ v H' a, (∀ a o, H a = some o → H' a = some o) → Has K (W0.at H') H' v a → R a → D.rt v H') : tSeq t u D σ H := raw_sd (D := { D with nx := u D }) sd en hn hr
theorem sd_thru {W : Wd} (h : SD K W t Γ (fun Γ' => SD K W u Γ' N R) R) : SD K W (tThru t u) Γ N R := sd_seq h
end
section
variable {P : Program} {w : World} {K : Frag} {mg : Str → Option Value} {base : Heap}
abbrev s_House___init__ : Stmt := inClass (topS 23) 0
abbrev N_House___init__ : List Str := ["self", "hands", "boxes", "things", "seals"]
theorem sc_House___init__ : FnScope N_House___init__ ["self", "hands", "boxes", "things", "seals"] (defScope s_House___init__) := ⟨rfl, rfl, rfl, by decide +kernel, rfl, by decide +kernel, by decide +kernel⟩
def spHouse (K : Frag) : Sp := fun vs H Q _ => ∃ x dx v1 v2 v3 v4 h, vs = [.ref x, v1, v2, v3, v4] ∧ H x = some (.ins (He.ga K "House") dx []) ∧ Rt K H v1 (.int (h.hands : Int)) ∧ Rt K H v2 (plsE h.boxes) ∧ Rt K H v3 (plsE h.things) ∧ Rt K H v4 (plsE h.seals) ∧ HsOk h ∧
  ∀ H2, (∀ a o, a ≠ x → H a = some o → H2 a = some o) → HouseAt K h (.ref x) H2 → Q .non H2
theorem ok_House (T : Tx K mg) : Ok P w K mg base 4 ("House", some "__init__") ["self", "hands", "boxes", "things", "seals"] (spHouse K) := by
  have f_is_number : Ok P w K mg base 1 ("is_number", none) ["value", "lowest", "highest"] (spD K preNum) := ok_num T
  have f_House_validate_places : Ok P w K mg base 3 ("House", some "validate_places") ["self", "part", "places", "most"] (spD K (prePlaces K)) := ok_places T
  refine okH T.d_House___init__ sc_House___init__ (fun _ _ _ _ _ _ us hl => match us, hl with | [_, _, _, _, _], _ => rfl) (fun vs H Q E ⟨_, _, _, _, _, _, _, e, _⟩ => by rw [e]; rfl) fun f cdv Ar outer s H E hr vs Q ⟨x, dx, v1, v2, v3, v4, h, e, hx, r1, r2, r3, r4, hh, q⟩ => ?_
  subst e
  refine ⟨_, (pss_cons (ps_if (pt_not (pt_val (pe_cf f_is_number (hr.mono (by decide)) T.g_is_number (pa_cons (pv 1) (pa_cons pe_int (pa_cons (pe_gI T.i_MAX_HANDS) pa_nil)))))) pss_never pss_nil)
      (pss_cons (ps_fldK K (pv 0) (pv 1) rfl)
      (pss_cons (ps_fldK K (pv 0) (pv 2) rfl)
      (pss_cons (ps_fldK K (pv 0) (pv 3) rfl)
      (pss_cons (ps_fldK K (pv 0) (pv 4) rfl)
      (pss_cons (ps_expr (pe_cm f_House_validate_places (hr.mono (by decide)) T.c_House T.m_House_validate_places (pv 0) (pa_cons pe_str (pa_cons (pv 2) (pa_cons (pe_gI T.i_MAX_BOXES) pa_nil)))))
      (pss_cons (ps_if (pt_cmpR (op_eqDK K hr.units) (pv 2) (pe_tup pa_nil) (nomark _)) pss_never pss_nil)
      (pss_cons (ps_expr (pe_cm f_House_validate_places (hr.mono (by decide)) T.c_House T.m_House_validate_places (pv 0) (pa_cons pe_str (pa_cons (pv 3) (pa_cons (pe_gI T.i_MAX_THINGS) pa_nil)))))
      (pss_one (ps_expr (pe_cm f_House_validate_places (hr.mono (by decide)) T.c_House T.m_House_validate_places (pv 0) (pa_cons pe_str (pa_cons (pv 4) (pa_cons (pe_gI T.i_MAX_SEALS) pa_nil)))))))))))))), ?_⟩
  have h1 := hh.h1
  have h3 := hh.h3
  refine raw_seq K (Γ := [some (.v (.ref x)), some (.d (.int (h.hands : Int))), some (.d (plsE h.boxes)), some (.d (plsE h.things)), some (.d (plsE h.seals))]) (N := fun Γ' => Γ' = [some (.v (.ref x)), some (.d (.int (h.hands : Int))), some (.d (plsE h.boxes)), some (.d (plsE h.things)), some (.d (plsE h.seals))]) (R := fun _ => False) ?_ ?_ (fun σ1 H1 Γ1 ex1 en1 eΓ => ?_) (fun _ _ _ _ _ z => z.elim)
  · walk_at "eds"
    refine ⟨_, _, _, rfl, fun _ => ?_⟩
    rw [show (decide ((1 : Int) ≤ (h.hands : Int)) && decide ((h.hands : Int) ≤ 4)) = true by rw [Bool.and_eq_true, decide_eq_true_eq, decide_eq_true_eq]; omega]
    walk_at "eds"
    rfl
  · have hv : HasA K (W0.at H) H [.ref x, v1, v2, v3, v4] [.v (.ref x), .d (.int (h.hands : Int)), .d (plsE h.boxes), .d (plsE h.things), .d (plsE h.seals)] := .cons rfl (.cons r1 (.cons r2 (.cons r3 (.cons r4 .nil))))
    exact start_en hv
  subst eΓ
  obtain ⟨u0, s0, e0⟩ := en1.at_ 0 _ rfl
  obtain ⟨u1, s1, g1⟩ := en1.at_ 1 _ rfl
  obtain ⟨u2, s2, g2⟩ := en1.at_ 2 _ rfl
  obtain ⟨u3, s3, g3⟩ := en1.at_ 3 _ rfl
  obtain ⟨u4, s4, g4⟩ := en1.at_ 4 _ rfl
  have e0' : u0 = .ref x := e0
  subst e0'
  have hx1 := ex1 _ _ hx
  refine ⟨u1, s1, _, s0, x, _, dx, _, rfl, hx1, T.c_House, T.n_House_hand_count, by decide, ?_⟩
  refine ⟨u2, s2, _, s0, x, _, dx, _, rfl, upd_same, T.c_House, T.n_House_box_places, Nat.lt_of_le_of_lt (putF_le (Nat.le_refl 0)) (by decide), ?_⟩
  refine ⟨u3, s3, _, s0, x, _, dx, _, rfl, upd_same, T.c_House, T.n_House_thing_places, Nat.lt_of_le_of_lt (putF_le (putF_le (Nat.le_refl 0))) (by decide), ?_⟩
  refine ⟨u4, s4, _, s0, x, _, dx, _, rfl, upd_same, T.c_House, T.n_House_seal_places, Nat.lt_of_le_of_lt (putF_le (putF_le (putF_le (Nat.le_refl 0)))) (by decide), ?_⟩
  rw [upd_upd, upd_upd, upd_upd]
  generalize hH5 : upd H1 x _ = H5
  have k5 : ∀ a o, a ≠ x → H1 a = some o → H5 a = some o := fun a o n z => by rw [← hH5, upd_ne n]; exact z
  have kt := sqT_but (K := K) hx1 k5
  have hx5 : H5 x = some (.ins (He.ga K "House") dx [("hand_count", u1), ("box_places", u2), ("thing_places", u3), ("seal_places", u4)]) := by
    rw [← hH5, upd_same]
    rfl
  have hu1 : u1 = .int (h.hands : Int) := by
    have q : Rt K H1 u1 (.int (h.hands : Int)) := g1
    cases q
    rfl
  subst hu1
  have ha : HouseAt K h (.ref x) H5 := ⟨x, dx, u2, u3, u4, rfl, hx5, Rt.keepT kt g2, Rt.keepT kt g3, Rt.keepT kt g4⟩
  dsimp only
  refine raw_sd (K := K) (Γ := [some (.p (HouseAt K h)), some (.d (.int (h.hands : Int))), some (.d (plsE h.boxes)), some (.d (plsE h.things)), some (.d (plsE h.seals))]) (N := fun _ => True) (R := fun _ => False) ?_ ?_ (fun σ2 H2 Γ2 ex2 _ _ => ?_) (fun _ _ _ _ _ z => z.elim)
  · walk_at "eds"
    refine ⟨insM (by decide +kernel), ?_⟩
    walk_at "eds"
    refine ⟨h, "boxes", h.boxes, 3, rfl, hh.one, fun i p hp => .inl ⟨rfl, hh.box i p hp⟩, by have := hh.b2; omega, fun _ => ?_⟩
    walk_at "eds"
    rw [show PyData.eqv (plsE h.boxes) (.tuple []) = false by
      have := hh.b1
      cases e : h.boxes with
      | nil => rw [e] at this; exact absurd this (by decide)
      | cons _ _ => simp [PyData.eqv, PyData.eqvAll]]
    walk_at "eds"
    refine ⟨insM (by decide +kernel), ?_⟩
    walk_at "eds"
    refine ⟨h, "things", h.things, 4, rfl, hh.one, fun i p hp => .inr (.inl ⟨rfl, hh.thing p (List.mem_of_getElem? hp)⟩), hh.t4, fun _ => ?_⟩
    walk_at "eds"
    refine ⟨insM (by decide +kernel), ?_⟩
    walk_at "eds"
    refine ⟨h, "seals", h.seals, 3, rfl, hh.one, fun i p hp => .inr (.inr ⟨rfl, hh.sealp p (List.mem_of_getElem? hp), hp⟩), hh.s3, fun _ => ?_⟩
    trivial
  · refine ⟨en1.len, fun i b hb => ?_⟩
    match i, hb with
    | 0, hb => cases hb; exact ⟨_, s0, fun H' k => ha.keep k⟩
    | 1, hb => cases hb; exact ⟨_, s1, Rt.int _⟩
    | 2, hb => cases hb; exact ⟨_, s2, Rt.keepT kt g2⟩
    | 3, hb => cases hb; exact ⟨_, s3, Rt.keepT kt g3⟩
    | 4, hb => cases hb; exact ⟨_, s4, Rt.keepT kt g4⟩
    | n + 5, hb => simp at hb
  · exact q H2 (fun a o n z => ex2 _ _ (k5 a o n (ex1 _ _ z))) (ha.keep fun a o _ z => ex2 _ _ z)
theorem ed_house {W : Wd} {Γ : Gm} {κ : A → Prop} {ts : TA} (h : EDA K W ts Γ fun as => ∃ h : Hs, as = [.d (.int (h.hands : Int)), .d (plsE h.boxes), .d (plsE h.things), .d (plsE h.seals)] ∧ HsOk h ∧ κ (.p (HouseAt K h))) : ED K W (tMake (He.ga K "House") (spHouse K) [] E0 ts) Γ κ := fun σ H Q e s q =>
  h σ H _ e s fun vs H1 as r1 s1 ha k => by
    obtain ⟨h, rfl, hh, k⟩ := k
    intro x dx hx hdx hne
    cases ha with
    | @cons v1 _ _ _ g1 ha =>
    cases ha with
    | @cons v2 _ _ _ g2 ha =>
    cases ha with
    | @cons v3 _ _ _ g3 ha =>
    cases ha with
    | @cons v4 _ _ _ g4 ha =>
    cases ha
    have hxd : upd H1 dx (.own x) x = none := by rw [upd_ne (Ne.symm hne)]; exact hx
    have sm : Same H1 (upd (upd H1 dx (.own x)) x (.ins (He.ga K "House") dx [])) := (same_new hdx).trans (same_new hxd)
    have kp := Kp.of_same sm
    refine ⟨x, dx, v1, v2, v3, v4, h, rfl, upd_same, Rt.keep kp g1, Rt.keep kp g2, Rt.keep kp g3, Rt.keep kp g4, hh, fun H2 k2 hA => ⟨rfl, ?_⟩⟩
    have s2 : Same H1 H2 := fun a o z => k2 a o (ne_of_none z hx) (sm a o z)
    exact q _ H2 (.p (HouseAt K h)) (r1.trans (Ro.of_same s2)) (Wd.same s1 s2) (fun H3 k3 => hA.keep k3) k
/-! logs -/
def LogAt (K : Frag) (h : Hs) (rs : List Rw) (v : V) (H : Hp) : Prop := ∃ a dx v1 v2, v = .ref a ∧ H a = some (.ins (He.ga K "Log") dx [("own_house", v1), ("own_rows", v2)]) ∧ HouseAt K h v1 H ∧ Rt K H v2 (.tuple (rs.map Rw.e))
theorem LogAt.keep {h : Hs} {rs : List Rw} {v : V} {H H' : Hp} : LogAt K h rs v H → Kp H H' → LogAt K h rs v H'
  | ⟨a, dx, v1, v2, e, h1, h2, h3⟩, k => ⟨a, dx, v1, v2, e, k _ _ trivial h1, h2.keep k, h3.keep k⟩
theorem insL {h : Hs} {rs : List Rw} : ∀ v H, LogAt K h rs v H → ∃ b dx fs, v = .ref b ∧ H b = some (.ins (He.ga K "Log") dx fs) := fun v H q => by
  obtain ⟨a, dx, v1, v2, e, h1, h2, h3⟩ := q
  exact ⟨a, dx, _, e, h1⟩
theorem fldL1 {W : Wd} {h : Hs} {rs : List Rw} (T : Tx K mg) : ∀ v H, (∀ H', Kp H H' → LogAt K h rs v H') → ∃ ad C dx fs u, v = .ref ad ∧ H ad = some (.ins C dx fs) ∧ Cls K C ∧ NoAttr K C "own_house" ∧ fs.lookup ("own_house" : Str) = some u ∧ Has K W H u (.p (HouseAt K h)) := fun v H q => by
  obtain ⟨a, dx, v1, v2, e, h1, h2, h3⟩ := q H (Kp.refl H)
  exact ⟨a, _, dx, _, _, e, h1, T.c_Log, T.n_Log_own_house, rfl, fun H' k => h2.keep k⟩
theorem fldL2 {W : Wd} {h : Hs} {rs : List Rw} (T : Tx K mg) : ∀ v H, (∀ H', Kp H H' → LogAt K h rs v H') → ∃ ad C dx fs u, v = .ref ad ∧ H ad = some (.ins C dx fs) ∧ Cls K C ∧ NoAttr K C "own_rows" ∧ fs.lookup ("own_rows" : Str) = some u ∧ Has K W H u (.d (.tuple (rs.map Rw.e))) := fun v H q => by
  obtain ⟨a, dx, v1, v2, e, h1, h2, h3⟩ := q H (Kp.refl H)
  exact ⟨a, _, dx, _, _, e, h1, T.c_Log, T.n_Log_own_rows, rfl, h3⟩
abbrev s_Log_house : Stmt := inClass (topS 44) 1
abbrev N_Log_house : List Str := ["self"]
theorem sc_Log_house : FnScope N_Log_house ["self"] (defScope s_Log_house) := ⟨rfl, rfl, rfl, by decide +kernel, rfl, by decide +kernel, by decide +kernel⟩
abbrev preL_house (K : Frag) : Wd → List A → (A → Prop) → Prop := fun _ as κ => ∃ (h : Hs) (rs : List Rw), as = [.p (LogAt K h rs)] ∧ κ (.p (HouseAt K h))
theorem ok_L_house (T : Tx K mg) : OkP P w K mg base 1 (He.ga K "Log") "house" (spD K (preL_house K)) := by
  refine okP T.p_Log_house sc_Log_house (fun _ _ _ _ _ _ us hl => match us, hl with | [_], _ => rfl) (fun _ _ _ ⟨_, _, e, _⟩ => by rw [e]; rfl) (fun _ _ _ _ h => h) fun f cdv Ar outer s H E hr W as κ ⟨h, rs, e, k⟩ => ?_
  subst e
  refine ⟨_, (pss_one (ps_ret (pe_fldK K (pv 0) rfl))), ?_⟩
  walk_at "eds"
  exact ⟨_, fldL1 T, k, fun _ _ z => by cases z⟩
abbrev s_Log_rows : Stmt := inClass (topS 44) 2
abbrev N_Log_rows : List Str := ["self"]
theorem sc_Log_rows : FnScope N_Log_rows ["self"] (defScope s_Log_rows) := ⟨rfl, rfl, rfl, by decide +kernel, rfl, by decide +kernel, by decide +kernel⟩
abbrev preL_rows (K : Frag) : Wd → List A → (A → Prop) → Prop := fun _ as κ => ∃ (h : Hs) (rs : List Rw), as = [.p (LogAt K h rs)] ∧ κ (.d (.tuple (rs.map Rw.e)))
theorem ok_L_rows (T : Tx K mg) : OkP P w K mg base 1 (He.ga K "Log") "rows" (spD K (preL_rows K)) := by
  refine okP T.p_Log_rows sc_Log_rows (fun _ _ _ _ _ _ us hl => match us, hl with | [_], _ => rfl) (fun _ _ _ ⟨_, _, e, _⟩ => by rw [e]; rfl) (fun _ _ _ _ h => h) fun f cdv Ar outer s H E hr W as κ ⟨h, rs, e, k⟩ => ?_
  subst e
  refine ⟨_, (pss_one (ps_ret (pe_fldK K (pv 0) rfl))), ?_⟩
  walk_at "eds"
  exact ⟨_, fldL2 T, k, fun _ _ z => by cases z⟩
abbrev s_Log___init__ : Stmt := inClass (topS 44) 0
abbrev N_Log___init__ : List Str := ["self", "house", "rows", "index", "row"]
theorem sc_Log___init__ : FnScope N_Log___init__ ["self", "house", "rows"] (defScope s_Log___init__) := ⟨rfl, rfl, rfl, by decide +kernel, rfl, by decide +kernel, by decide +kernel⟩
def spLog (K : Frag) : Sp := fun vs H Q _ => ∃ x dx v1 v2 h rs a, vs = [.ref x, v1, v2] ∧ H x = some (.ins (He.ga K "Log") dx []) ∧ HouseAt K h v1 H ∧ Has K W0 H v2 a ∧ (a = .d (.tuple (rs.map Rw.e)) ∨ ∃ p, a = .o p (rs.map Rw.e)) ∧ rs.length ≤ 30 ∧ (∀ r ∈ rs, RwOk h r) ∧
  ∀ H2, (∀ a o, a ≠ x → H a = some o → H2 a = some o) → LogAt K h rs (.ref x) H2 → Q .non H2
theorem rw_word (r : Rw) : ∃ w tl, r.e = .tuple (.str w :: tl) ∧ PyData.strOk w = true ∧ ((∃ hs, r = .gap hs ∧ w = "gap" ∧ tl = [natsE hs]) ∨ ((∀ hs, r ≠ .gap hs) ∧ ¬ w = "gap")) := by
  cases r with
  | gap hs => exact ⟨_, _, rfl, by decide +kernel, .inl ⟨hs, rfl, rfl, rfl⟩⟩
  | deed d =>
    obtain ⟨w, r, e, hw, hg⟩ := dd_word d
    exact ⟨w, r, e, hw, .inr ⟨(fun _ z => by cases z), hg⟩⟩
  | sight g => cases g <;> exact ⟨_, _, rfl, by decide +kernel, .inr ⟨(fun _ z => by cases z), by decide +kernel⟩⟩
  | nots g => exact ⟨_, _, rfl, by decide +kernel, .inr ⟨(fun _ z => by cases z), by decide +kernel⟩⟩
theorem HouseAt.but {h : Hs} {u : V} {x dx C : Addr} {H H' : Hp} (g : HouseAt K h u H) (hx : H x = some (.ins C dx [])) (k : ∀ a o, a ≠ x → H a = some o → H' a = some o) : HouseAt K h u H' := by
  obtain ⟨a, da, w2, w3, w4, e, h1, h2, h3, h4⟩ := g
  have kt := sqT_but (K := K) hx k
  refine ⟨a, da, w2, w3, w4, e, k _ _ (fun z => ?_) h1, Rt.keepT kt h2, Rt.keepT kt h3, Rt.keepT kt h4⟩
  rw [z, hx] at h1
  injection h1 with h1
  injection h1 with _ _ h5
  cases h5
theorem ok_Log (T : Tx K mg) : Ok P w K mg base 8 ("Log", some "__init__") ["self", "house", "rows"] (spLog K) := by
  have f_validate_hands : Ok P w K mg base 3 ("validate_hands", none) ["house", "hands"] (spD K (preVHs K)) := ok_vhs T
  have f_validate_row : Ok P w K mg base 7 ("validate_row", none) ["house", "row"] (spD K (preVR K)) := ok_vr T
  refine okH T.d_Log___init__ sc_Log___init__ (fun _ _ _ _ _ _ us hl => match us, hl with | [_, _, _], _ => rfl) (fun vs H Q E ⟨_, _, _, _, _, _, _, e, _⟩ => by rw [e]; rfl) fun f cdv Ar outer s H E hr vs Q ⟨x, dx, v1, v2, h, rs, a, e, hx, r1, r2, ha, hl, hok, q⟩ => ?_
  subst e
  rcases ha with rfl | ⟨p, rfl⟩
  case' inl => refine ⟨_, (pss_cons (ps_for PassesOwn.never rfl (pi_enumTK K rfl T.b_enumerate (pa_cons (pv 2) pa_nil)) (pg_tupK (n := 2) K rfl (pgs_cons (pg_name (i := 3) sc_Log___init__.nd rfl (Or.inl rfl)) (pgs_cons (pg_name (i := 4) sc_Log___init__.nd rfl (Or.inl rfl)) pgs_nil))) (pss_cons (ps_if (pt_cmpR (op_eqDK K hr.units) (pv 3) (pe_gI T.i_MAX_ROWS) (nomark _)) pss_never pss_nil)
      (pss_one (ps_try_never (fun _ _ z => z) (pss_one (ps_if (pt_cmpR op_eq (pe_ix (ix_tupK K) (pv 4) pe_int (fun _ _ => rfl)) (pe_gS T.s_GAP) (nomark _)) (pss_one (ps_expr (pe_cf f_validate_hands (hr.mono (by decide)) T.g_validate_hands (pa_cons (pv 1) (pa_cons (pe_ix (ix_tupK K) (pv 4) pe_int (fun _ _ => rfl)) pa_nil))))) (pss_one (ps_expr (pe_cf f_validate_row (hr.mono (by decide)) T.g_validate_row (pa_cons (pv 1) (pa_cons (pv 4) pa_nil))))))) pss_nil))))
      (pss_cons (ps_fldK K (pv 0) (pv 1) rfl)
      (pss_one (ps_fldK K (pv 0) (pe_callTy (call_tupleK K) (by rfl) T.b_tuple (by decide +kernel) (pa_cons (pv 2) pa_nil)) rfl)))), ?_⟩
  case' inr => refine ⟨_, (pss_cons (ps_for PassesOwn.never rfl (pi_enumK K rfl T.b_enumerate (pa_cons (pv 2) pa_nil)) (pg_tupK (n := 2) K rfl (pgs_cons (pg_name (i := 3) sc_Log___init__.nd rfl (Or.inl rfl)) (pgs_cons (pg_name (i := 4) sc_Log___init__.nd rfl (Or.inl rfl)) pgs_nil))) (pss_cons (ps_if (pt_cmpR (op_eqDK K hr.units) (pv 3) (pe_gI T.i_MAX_ROWS) (nomark _)) pss_never pss_nil)
      (pss_one (ps_try_never (fun _ _ z => z) (pss_one (ps_if (pt_cmpR op_eq (pe_ix (ix_tupK K) (pv 4) pe_int (fun _ _ => rfl)) (pe_gS T.s_GAP) (nomark _)) (pss_one (ps_expr (pe_cf f_validate_hands (hr.mono (by decide)) T.g_validate_hands (pa_cons (pv 1) (pa_cons (pe_ix (ix_tupK K) (pv 4) pe_int (fun _ _ => rfl)) pa_nil))))) (pss_one (ps_expr (pe_cf f_validate_row (hr.mono (by decide)) T.g_validate_row (pa_cons (pv 1) (pa_cons (pv 4) pa_nil))))))) pss_nil))))
      (pss_cons (ps_fldK K (pv 0) (pv 1) rfl)
      (pss_one (ps_fldK K (pv 0) (pe_callTy (call_tupleK K) (by rfl) T.b_tuple (by decide +kernel) (pa_cons (pv 2) pa_nil)) rfl)))), ?_⟩
  case inl =>
    refine raw_seq K (Γ := [some (.v (.ref x)), some (.p (HouseAt K h)), some (.d (.tuple (rs.map Rw.e))), none, none]) (N := fun Γ' => ∃ y z, Γ' = [some (.v (.ref x)), some (.p (HouseAt K h)), some (.d (.tuple (rs.map Rw.e))), y, z]) (R := fun _ => False) ?_ ?_ (fun σ1 H1 Γ1 ex1 en1 ⟨y, z, eΓ⟩ => ?_) (fun _ _ _ _ _ z => z.elim)
    · refine sd_forET (ds := rs.map Rw.e) (fun i Γ' => ∃ y z, Γ' = [some (.v (.ref x)), some (.p (HouseAt K h)), some (.d (.tuple (rs.map Rw.e))), y, z]) (eda_cons (ed_var rfl (eda_nil rfl))) ⟨none, none, rfl⟩ (fun i d Γ' hd ⟨y, z, e⟩ => ?_) fun Γ' e => e
      subst e
      obtain ⟨r, hr, rfl⟩ := map_at' hd
      have hi := (List.getElem?_eq_some_iff.mp hr).1
      have ok := hok r (List.mem_of_getElem? hr)
      obtain ⟨wd, tl, er, hw, hg⟩ := rw_word r
      walk_at "eds"
      rw [show (PyData.int 30) = .int ((30 : Nat) : Int) from rfl, eqv_nat, decide_eq_false (by omega)]
      walk_at "eds"
      refine sd_thru ?_
      walk_at "eds"
      rcases hg with ⟨hs, rfl, rfl, rfl⟩ | ⟨hn, hne⟩
      · dsimp only [Rw.e]
        walk_at "eds"
        refine ⟨ok, fun _ => ?_⟩
        walk_at "eds"
        exact ⟨_, _, rfl⟩
      · rw [er]
        refine rd_ixT (i := 0) rfl ?_
        rw [← er]
        walk_at "eds"
        rw [decide_eq_false hne]
        walk_at "eds"
        refine ⟨ok, hn, fun _ => ?_⟩
        walk_at "eds"
        exact ⟨_, _, rfl⟩
    · have hv : HasA K (W0.at H) H [.ref x, v1, v2] [.v (.ref x), .p (HouseAt K h), (.d (.tuple (rs.map Rw.e)))] := .cons rfl (.cons (fun H' k => r1.keep k) (.cons (has_at r2) .nil))
      exact start_en hv
    subst eΓ
    obtain ⟨u0, s0, e0⟩ := en1.at_ 0 _ rfl
    obtain ⟨u1, s1, g1⟩ := en1.at_ 1 _ rfl
    obtain ⟨u2, s2, g2⟩ := en1.at_ 2 _ rfl
    have e0' : u0 = .ref x := e0
    subst e0'
    have hx1 := ex1 _ _ hx
    refine ⟨u1, s1, _, s0, x, _, dx, _, rfl, hx1, T.c_Log, T.n_Log_own_house, by decide, ?_⟩
    dsimp only
    generalize hH2 : upd H1 x _ = H2
    have k2 : ∀ a o, a ≠ x → H1 a = some o → H2 a = some o := fun a o n z => by rw [← hH2, upd_ne n]; exact z
    have kt := sqT_but (K := K) hx1 k2
    have hx2 : H2 x = some (.ins (He.ga K "Log") dx (putF "own_house" u1 [])) := by rw [← hH2, upd_same]
    have q2 : Rt K H1 u2 (.tuple (rs.map Rw.e)) := g2
    cases q2 with
    | @tup p us _ hq hr2 =>
      refine ⟨_, s2, p, us, rfl, .inr ⟨kt _ _ hq, _, s0, x, _, dx, _, rfl, hx2, T.c_Log, T.n_Log_own_rows, Nat.lt_of_le_of_lt (putF_le (Nat.le_refl 0)) (by decide), ?_⟩⟩
      dsimp only
      generalize hH4 : upd H2 x _ = H4
      have k4 : ∀ a o, a ≠ x → H1 a = some o → H4 a = some o := fun a o n z => by rw [← hH4, upd_ne n]; exact k2 a o n z
      have kt4 := sqT_but (K := K) hx1 k4
      exact q _ (fun a o n z => k4 a o n (ex1 _ _ z)) ⟨x, dx, u1, .ref p, rfl, by rw [← hH4, upd_same]; rfl, (g1 H1 (Kp.refl H1)).but hx1 k4, .tup (kt4 _ _ hq) (RtA.keepT kt4 hr2)⟩
  case inr =>
    refine raw_seq K (Γ := [some (.v (.ref x)), some (.p (HouseAt K h)), some (.o p (rs.map Rw.e)), none, none]) (N := fun Γ' => ∃ y z, Γ' = [some (.v (.ref x)), some (.p (HouseAt K h)), some (.o p (rs.map Rw.e)), y, z]) (R := fun _ => False) ?_ ?_ (fun σ1 H1 Γ1 ex1 en1 ⟨y, z, eΓ⟩ => ?_) (fun _ _ _ _ _ z => z.elim)
    · refine sd_forEL (ds := rs.map Rw.e) (fun i Γ' => ∃ y z, Γ' = [some (.v (.ref x)), some (.p (HouseAt K h)), some (.o p (rs.map Rw.e)), y, z]) (eda_cons (ed_var rfl (eda_nil rfl))) ⟨none, none, rfl⟩ (fun i Γ' ⟨_, _, e⟩ => ⟨2, by rw [e]; rfl⟩) (fun i d Γ' hd ⟨y, z, e⟩ => ?_) fun Γ' e => e
      subst e
      obtain ⟨r, hr, rfl⟩ := map_at' hd
      have hi := (List.getElem?_eq_some_iff.mp hr).1
      have ok := hok r (List.mem_of_getElem? hr)
      obtain ⟨wd, tl, er, hw, hg⟩ := rw_word r
      walk_at "eds"
      rw [show (PyData.int 30) = .int ((30 : Nat) : Int) from rfl, eqv_nat, decide_eq_false (by omega)]
      walk_at "eds"
      refine sd_thru ?_
      walk_at "eds"
      rcases hg with ⟨hs, rfl, rfl, rfl⟩ | ⟨hn, hne⟩
      · dsimp only [Rw.e]
        walk_at "eds"
        refine ⟨ok, fun _ => ?_⟩
        walk_at "eds"
        exact ⟨_, _, rfl⟩
      · rw [er]
        refine rd_ixT (i := 0) rfl ?_
        rw [← er]
        walk_at "eds"
        rw [decide_eq_false hne]
        walk_at "eds"
        refine ⟨ok, hn, fun _ => ?_⟩
        walk_at "eds"
        exact ⟨_, _, rfl⟩
    · have hv : HasA K (W0.at H) H [.ref x, v1, v2] [.v (.ref x), .p (HouseAt K h), (.o p (rs.map Rw.e))] := .cons rfl (.cons (fun H' k => r1.keep k) (.cons (has_at r2) .nil))
      exact start_en hv
    subst eΓ
    obtain ⟨u0, s0, e0⟩ := en1.at_ 0 _ rfl
    obtain ⟨u1, s1, g1⟩ := en1.at_ 1 _ rfl
    obtain ⟨u2, s2, g2⟩ := en1.at_ 2 _ rfl
    have e0' : u0 = .ref x := e0
    subst e0'
    have hx1 := ex1 _ _ hx
    refine ⟨u1, s1, _, s0, x, _, dx, _, rfl, hx1, T.c_Log, T.n_Log_own_house, by decide, ?_⟩
    dsimp only
    generalize hH2 : upd H1 x _ = H2
    have k2 : ∀ a o, a ≠ x → H1 a = some o → H2 a = some o := fun a o n z => by rw [← hH2, upd_ne n]; exact z
    have kt := sqT_but (K := K) hx1 k2
    have hx2 : H2 x = some (.ins (He.ga K "Log") dx (putF "own_house" u1 [])) := by rw [← hH2, upd_same]
    obtain ⟨e2, _, us, hp, hr2⟩ := g2
    subst e2
    have npx : p ≠ x := fun z => by
      rw [z, hx1] at hp
      cases hp
    refine ⟨_, s2, p, us, rfl, .inl ⟨SqL.of (k2 _ _ npx hp), fun l hl => ⟨_, s0, x, _, dx, _, rfl, by rw [upd_ne (ne_of_none hx2 hl)]; exact hx2, T.c_Log, T.n_Log_own_rows, Nat.lt_of_le_of_lt (putF_le (Nat.le_refl 0)) (by decide), ?_⟩⟩⟩
    dsimp only
    have nlx : l ≠ x := (ne_of_none hx2 hl).symm
    generalize hH4 : upd (upd H2 l (.tup us)) x _ = H4
    have k4 : ∀ a o, a ≠ x → H1 a = some o → H4 a = some o := fun a o n z => by rw [← hH4, upd_ne n, upd_ne (ne_of_none (k2 a o n z) hl)]; exact k2 a o n z
    have kt4 := sqT_but (K := K) hx1 k4
    exact q _ (fun a o n z => k4 a o n (ex1 _ _ z)) ⟨x, dx, u1, .ref l, rfl, by rw [← hH4, upd_same]; rfl, (g1 H1 (Kp.refl H1)).but hx1 k4, .tup (SqT.of (by rw [← hH4, upd_ne nlx, upd_same])) (RtA.keepT kt4 hr2)⟩
end
end Q47
set_option maxHeartbeats 4000000
/-! ### logs ==, words -/
namespace Q47
open PySem L2
open PySem.W (Frag)
open PyProof.Rows (envOfC)
local macro_rules | `(tactic| walk_at "kit") => `(tactic| first | with_reducible exact kit_int_int | with_reducible exact kit_int_bool | with_reducible exact kit_int_str | with_reducible exact kit_int_tuple | with_reducible exact kit_int_list | with_reducible exact kit_int_dict | with_reducible exact kit_str_int | with_reducible exact kit_str_bool | with_reducible exact kit_str_str | with_reducible exact kit_str_tuple | with_reducible exact kit_str_list | with_reducible exact kit_str_dict | with_reducible exact kit_tuple_int | with_reducible exact kit_tuple_bool | with_reducible exact kit_tuple_str | with_reducible exact kit_tuple_tuple | with_reducible exact kit_tuple_list | with_reducible exact kit_tuple_dict | with_reducible exact kit_list_int | with_reducible exact kit_list_bool | with_reducible exact kit_list_str | with_reducible exact kit_list_tuple | with_reducible exact kit_list_list | with_reducible exact kit_list_dict)
local macro_rules | `(tactic| walk_at "shp") => `(tactic| first
  | with_reducible exact (shp_int _).ok
  | with_reducible exact (shp_pl _).ok
  | with_reducible exact (shp_bool _).ok
  | with_reducible exact (shp_it _).ok
  | with_reducible exact (shp_str (by decide +kernel)).ok
  | with_reducible exact (shp_2 (shp_str (by decide +kernel)) (shp_int _)).ok
  | with_reducible exact (shp_st _).ok
  | with_reducible exact (shp_str (kd_ok _)).ok
  | with_reducible exact (shp_str (pl_ok _)).ok
  | with_reducible exact (shp_pls _).ok
  | with_reducible exact (shp_hs _).ok
  | with_reducible exact shp_nil.ok
  | with_reducible exact (shp_dd _).ok
  | with_reducible exact (shp_sg _).ok
  | with_reducible exact (shp_rw _).ok
  | assumption)
local macro_rules | `(tactic| walk_at "ed") => `(tactic| first
  | ((with_reducible refine' ed_var ?hv ?_); (case hv => exact rfl))
  | with_reducible refine ed_int ?_
  | with_reducible refine ed_str ?_
  | with_reducible refine ed_bl ?_
  | with_reducible refine ed_non ?_
  | with_reducible refine edd_cons ?_
  | with_reducible refine edd_nil ?_
  | with_reducible refine eda_cons ?_
  | with_reducible refine eda_nil ?_
  | with_reducible refine ⟨_, rfl, _, fldH1 ‹_›, ?_⟩
  | with_reducible refine ⟨_, rfl, _, fldH2 ‹_›, ?_⟩
  | with_reducible refine ⟨_, rfl, _, fldH3 ‹_›, ?_⟩
  | with_reducible refine ⟨_, rfl, _, fldH4 ‹_›, ?_⟩
  | with_reducible refine ⟨_, rfl, insH, ?_⟩
  | with_reducible refine ⟨_, rfl, ?_⟩
  | with_reducible refine ⟨_, _, rfl, ?_⟩
  | with_reducible refine ⟨_, _, _, rfl, ?_⟩
  | with_reducible refine ed_tupD ?_
  | with_reducible refine ed_lstD ?_
  | with_reducible refine ed_op ?_
  | with_reducible refine ed_chain ?_
  | with_reducible refine ed_fld ?_
  | with_reducible refine ed_prop ?_
  | with_reducible refine ed_meth ?_
  | with_reducible refine gd_tup rfl ?_
  | with_reducible refine gds_cons ?_
  | with_reducible refine gds_nil ?_
  | with_reducible refine ed_slHi ?_
  | with_reducible refine ed_slLo ?_
  | ((with_reducible refine' cd_isiI ?hb ?_); (case hb => walk_at "kit"))
  | ((with_reducible refine' cd_isiS ?hb ?_); (case hb => walk_at "kit"))
  | ((with_reducible refine' cd_isiT ?hb ?_); (case hb => walk_at "kit"))
  | ((with_reducible refine' cd_isiL ?hb ?_); (case hb => walk_at "kit"))
  | with_reducible refine ed_ty ?_
  | with_reducible refine fun (_ : NewA _ _ _) => ?_
  | with_reducible refine ed_lstRg ?_
  | with_reducible refine ed_cb ?_
  | with_reducible refine ed_call ?_
  | with_reducible refine ed_and ?_
  | with_reducible refine ed_or ?_
  | with_reducible refine ed_not ?_
  | with_reducible refine ed_if ?_
  | with_reducible refine td_test ?_
  | with_reducible refine td_B ?_
  | with_reducible refine td_and ?_
  | with_reducible refine td_or ?_
  | with_reducible refine td_not ?_
  | with_reducible refine td_yes ?_
  | with_reducible refine rd_I0 ?_
  | with_reducible refine rd_eqT ?_
  | with_reducible refine rd_neT ?_
  | with_reducible refine rd_B0 ?_
  | ((with_reducible refine rd_eq ?hx ?hy ?_); (case hx => walk_at "shp"); (case hy => walk_at "shp"))
  | ((with_reducible refine rd_ne ?hx ?hy ?_); (case hx => walk_at "shp"); (case hy => walk_at "shp"))
  | ((with_reducible refine' rd_ixTi ?h0 ?hi ?_); (case h0 => decide); (case hi => exact rfl))
  | ((with_reducible refine len_ok ?hl ?_); (case hl => exact rfl))
  | ((with_reducible refine ed_dsel3 ?a12 ?a13 ?a23 ?_); (case a12 => decide +kernel); (case a13 => decide +kernel); (case a23 => decide +kernel))
  | with_reducible refine fun _ (_ : New _ _ _) => ?_
  | with_reducible refine cd_lenK (.inr ⟨_, rfl, ?_⟩)
  | with_reducible refine cd_lenK (.inl ⟨_, _, rfl, ?_⟩)
  | with_reducible refine cd_tupleK ?_
  | ((with_reducible refine if_t ?hc ?_); (case hc => first | rfl | decide +kernel))
  | ((with_reducible refine if_f ?hc ?_); (case hc => first | rfl | decide +kernel))
  | with_reducible refine sd_par ?_
  | with_reducible refine sd_par3 ?_
  | with_reducible refine sd_next ?_
  | with_reducible refine sd_ret ?_
  | with_reducible refine sd_drop ?_
  | with_reducible refine sd_seq ?_
  | with_reducible refine sd_asg ?_
  | with_reducible refine gd_name ?_
  | with_reducible refine sd_if ?_)
local macro_rules | `(tactic| walk_at "out") => `(tactic| exact ⟨by assumption, fun _ _ z => by cases z⟩)
local macro_rules | `(tactic| walk_at "eds") => `(tactic| repeat walk_at "ed")

section
variable {K : Frag} {W : Wd} {Γ : Gm} {κ : A → Prop}
theorem has_W0 {H : Hp} {v : V} {a : A} (h : Has K W H v a) : Has K W0 H v a := by
  cases a with
  | o p xs =>
    obtain ⟨e, _, us, h1, h2⟩ := h
    exact ⟨e, fun z => z, us, h1, h2⟩
  | _ => exact h
theorem ed_log {ts : TA} (h : EDA K W ts Γ fun as => ∃ (h : Hs) (rs : List Rw) (a : A), as = [.p (HouseAt K h), a] ∧ (a = .d (.tuple (rs.map Rw.e)) ∨ ∃ p, a = .o p (rs.map Rw.e)) ∧ rs.length ≤ 30 ∧ (∀ r ∈ rs, RwOk h r) ∧ κ (.p (LogAt K h rs))) : ED K W (tMake (He.ga K "Log") (spLog K) [] E0 ts) Γ κ := fun σ H Q e s q =>
  h σ H _ e s fun vs H1 as r1 s1 ha k => by
    obtain ⟨h, rs, a, rfl, hform, hl, hok, k⟩ := k
    intro x dx hx hdx hne
    cases ha with
    | @cons v1 _ _ _ g1 ha =>
    cases ha with
    | @cons v2 _ _ _ g2 ha =>
    cases ha
    have hxd : upd H1 dx (.own x) x = none := by rw [upd_ne (Ne.symm hne)]; exact hx
    have sm : Same H1 (upd (upd H1 dx (.own x)) x (.ins (He.ga K "Log") dx [])) := (same_new hdx).trans (same_new hxd)
    have kp := Kp.of_same sm
    refine ⟨x, dx, v1, v2, h, rs, a, rfl, upd_same, g1 _ kp, has_W0 (g2.keep s1 (Ro.of_same sm)), hform, hl, hok, fun H2 k2 hA => ⟨rfl, ?_⟩⟩
    have s2 : Same H1 H2 := fun a o z => k2 a o (ne_of_none z hx) (sm a o z)
    exact q _ H2 (.p (LogAt K h rs)) (r1.trans (Ro.of_same s2)) (Wd.same s1 s2) (fun H3 k3 => hA.keep k3) k
theorem wipeG_len : ∀ vs : List Nat, (wipeG Γ vs).length = Γ.length
  | [] => rfl
  | v :: vs => by
    unfold wipeG
    rw [List.length_set]
    exact wipeG_len vs
theorem tyes {σ : St} {H : Hp} {p q : Hp → Prop} (h : p H) : tYes σ H (fun b H3 => if b = true then p H3 else q H3) := by
  show (if true = true then p H else q H)
  rw [if_pos rfl]
  exact h
theorem take_more {α β : Type} {l : List α} {f : α → List β} {i : Nat} (h : i < l.length) : (l.take (i + 1)).flatMap f = (l.take i).flatMap f ++ f l[i] := by
  rw [List.take_succ, List.getElem?_eq_getElem h, List.flatMap_append]
  simp
theorem flat_take {α β : Type} {l : List α} {f : α → List β} (i : Nat) : ((l.take i).flatMap f).length ≤ (l.flatMap f).length := by
  have e : l.flatMap f = (l.take i).flatMap f ++ (l.drop i).flatMap f := by rw [← List.flatMap_append, List.take_append_drop]
  rw [e, List.length_append]
  omega
/-- [y for x in value for y in e(x)], value a tuple -/
theorem ed_lc2 {tl te1 : TE} {j j1 : Nat} {vs : List Nat} {f : PyData → List PyData} (hj : j ∈ vs) (hj1 : j1 < Γ.length)
    (h : ED K W tl Γ fun a => ∃ ds : List PyData, a = .d (.tuple ds) ∧ ds.length ≤ 50000 ∧ (ds.flatMap f).length ≤ 50000 ∧ (∀ H (i : Nat) d, ds[i]? = some d → ED K (W.at H) te1 ((wipeG Γ vs).set j (some (.d d))) fun b => ∃ q, b = .o q (f d) ∧ ¬ (W.at H).O q) ∧ ∀ p, New W Γ p → κ (.o p (ds.flatMap f))) :
    ED K W (tLc2 (iTup K tl) (gName j) tYes (iList K te1) (gName j1) tYes (tVar j1) vs [j1]) Γ κ := fun σ H Q e s q => by
  refine h σ H _ e s fun v H1 a r1 s1 ha k => ?_
  obtain ⟨ds, rfl, hl, hlf, hb, hk⟩ := k
  cases ha with
  | @tup p ws _ h1 h2 =>
    have hwl := h2.length
    refine ⟨p, rfl, ⟨ws, h1⟩, fun Dl hD => ?_⟩
    have nm : ¬ W.M Dl := Wd.freshM s1 hD
    have no : ¬ W.O Dl := Wd.freshO s1 hD
    refine ⟨fun i m H' => m = ds.length - i ∧ i ≤ ds.length ∧ Ro W H1 H' ∧ W.S H' ∧ ∃ us, H' Dl = some (.lst us) ∧ RtA K H' us ((ds.take i).flatMap f), ⟨_, rfl, Nat.zero_le _, Ro.of_same (same_new hD), Wd.same s1 (same_new hD), [], upd_same, .nil⟩, ?_⟩
    rintro i m H' ⟨rfl, hi, ro, s', us, hDl, hus⟩
    by_cases hlt : i < ds.length
    · obtain ⟨x, hx, hxd⟩ := h2.get (List.getElem?_eq_getElem hlt)
      refine .inr ⟨⟨ws, x, (ro.kp s1).sqT h1, hx⟩, fun H3 => Ro W H1 H3 ∧ W.S H3 ∧ ∃ us, H3 Dl = some (.lst us) ∧ RtA K H3 us ((ds.take (i + 1)).flatMap f), fun H3 z => ⟨ds.length - (i + 1), by omega, rfl, hlt, z⟩, fun y H4 hy => ?_⟩
      obtain ⟨rfl, hy⟩ := hy
      have ey := Option.some.inj ((hy ws ((ro.kp s1).sqT h1)).symm.trans hx)
      subst ey
      refine ⟨by rw [wipe_set hj, wipe_wipe], ?_⟩
      refine tyes (p := fun H3 => (iList K te1) ((wipe σ vs).set j (some y)) H3 _) ?_
      have e2 : En K (W.at H4) H4 ((wipe σ vs).set j (some y)) ((wipeG Γ vs).set j (some (.d ds[i]))) := by
        have e3 : En K W H4 ((wipe σ vs).set j (some y)) ((wipeG Γ vs).set j (some (.d ds[i]))) := (((e.keep s r1).keep s1 ro).wipe vs).set j (a := .d ds[i]) (Rt.keep (ro.kp s1) hxd)
        exact ⟨e3.len, fun i a q => let ⟨v, q1, q2⟩ := e3.at_ i a q; ⟨v, q1, has_at q2⟩⟩
      have sl : ((wipe σ vs).set j (some y)).length = Γ.length := by
        have q1 := (e.wipe vs).len
        have q2 := (e.wipe vs)
        rw [List.length_set]
        rw [q1, wipeG_len]
      have s4 : (W.at H4).S H4 := ⟨s', Ro.refl, s'⟩
      refine hb H4 i _ (List.getElem?_eq_getElem hlt) _ H4 _ e2 s4 fun u H5 b r5 s5 hb5 k5 => ?_
      obtain ⟨q5, rfl, hno⟩ := k5
      obtain ⟨rfl, hm5, vs5, hq5, hr5⟩ := hb5
      have hl5 := hr5.length
      have r5' : Ro W H4 H5 := r5
      have nq : q5 ≠ Dl := fun z => hno (by rw [z]; show H4 Dl ≠ none; rw [hDl]; exact fun y => by cases y)
      have kp5 := r5'.kp s'
      refine ⟨q5, rfl, ⟨vs5, SqL.of hq5⟩, fun jj k H' => k = vs5.length - jj ∧ jj ≤ vs5.length ∧ Ro W H1 H' ∧ W.S H' ∧ H' q5 = some (.lst vs5) ∧ RtA K H' vs5 (f ds[i]) ∧ ∃ us, H' Dl = some (.lst us) ∧ RtA K H' us ((ds.take i).flatMap f ++ (f ds[i]).take jj),
        ⟨_, rfl, Nat.zero_le _, ro.trans r5', s5.1, hq5, hr5, us, r5' _ _ nm hDl, by rw [List.take_zero, List.append_nil]; exact hus.keep kp5⟩, ?_⟩
      rintro jj k H6 ⟨rfl, hjj, ro6, s6, hq6, hv6, us6, hD6, hu6⟩
      by_cases hlj : jj < vs5.length
      · have hg : vs5[jj]? = some vs5[jj] := List.getElem?_eq_getElem hlj
        obtain ⟨dj, hdj, hrj⟩ := hv6.getv hg
        refine .inr ⟨⟨vs5, _, SqL.of hq6, hg⟩, fun H' => Ro W H1 H' ∧ W.S H' ∧ H' q5 = some (.lst vs5) ∧ RtA K H' vs5 (f ds[i]) ∧ ∃ us, H' Dl = some (.lst us) ∧ RtA K H' us ((ds.take i).flatMap f ++ (f ds[i]).take (jj + 1)), fun H' z => ⟨vs5.length - (jj + 1), by omega, rfl, hlj, z⟩, fun y2 H7 hy2 => ?_⟩
        obtain ⟨rfl, hy2⟩ := hy2
        have ey2 := Option.some.inj ((hy2 vs5 (SqL.of hq6)).symm.trans hg)
        subst ey2
        refine ⟨by rw [wipe_set (List.mem_singleton.mpr rfl), wipe_wipe], ?_⟩
        refine tyes (p := fun H3 => (tVar j1) _ H3 _) ?_
        refine ⟨vs5[jj], ?_, us6, hD6, ?_, ?_⟩
        · rw [List.getElem?_set_self]
          unfold wipe wipe
          rw [List.length_set, sl]
          exact hj1
        · have q1 := hu6.length
          have q2 := flat_take (l := ds) (f := f) (i + 1)
          rw [take_more hlt, List.length_append] at q2
          rw [q1, List.length_append, List.length_take]
          exact Nat.lt_of_lt_of_le (show _ < 50001 by omega) (by decide)
        · have nqD : q5 ≠ Dl := nq
          have kp7 : Kp H7 (upd H7 Dl (.lst (us6 ++ [vs5[jj]]))) := fun b ob n z => by
            rw [upd_ne (fun y => by rw [y, hD6] at z; cases z; exact n)]
            exact z
          refine ⟨fun b ob bm z => ?_, W.mono _ _ s6 fun b ob mo z => ?_, by rw [upd_ne nqD]; exact hq6, hv6.keep kp7, _, upd_same, ?_⟩
          · rw [upd_ne (ne_of_none z hD)]
            exact ro6 b ob bm z
          · rw [upd_ne (fun y => by rw [y] at mo; exact mo.elim nm no)]
            exact z
          · rw [List.take_succ, hdj, ← List.append_assoc]
            exact (hu6.keep kp7).append (.cons (Rt.keep kp7 hrj) .nil)
      · have ej : jj = vs5.length := by omega
        subst ej
        refine .inl ⟨⟨vs5, SqL.of hq6, Nat.le_refl _⟩, ro6, s6, us6, hD6, ?_⟩
        rw [take_more hlt]
        rw [show (f ds[i]).take vs5.length = f ds[i] from List.take_of_length_le (by omega)] at hu6
        exact hu6
    · have ei : i = ds.length := by omega
      subst ei
      rw [List.take_length] at hus
      exact .inl ⟨⟨ws, (ro.kp s1).sqT h1, by omega⟩, q _ H' (.o Dl _) (r1.trans ro) s' ⟨rfl, nm, us, hDl, hus⟩ (hk Dl (new_of e s r1 s1 hD))⟩
end
section
variable {P : Program} {w : World} {K : Frag} {mg : Str → Option Value} {base : Heap}
abbrev s_Log___eq__ : Stmt := inClass (topS 44) 9
abbrev N_Log___eq__ : List Str := ["self", "other"]
theorem sc_Log___eq__ : FnScope N_Log___eq__ ["self", "other"] (defScope s_Log___eq__) := ⟨rfl, rfl, rfl, by decide +kernel, rfl, by decide +kernel, by decide +kernel⟩
def preEqL (K : Frag) : Wd → List A → (A → Prop) → Prop := fun _ as κ => ∃ (h : Hs) (rs : List Rw), as = [.p (LogAt K h rs), .p (LogAt K h rs)] ∧ κ (.d (.bool true))
theorem insF_eqL : InsF (He.ga K "Log") (spD K (preEqL K)) := insF fun W as κ ⟨h, rs, e, _⟩ => ⟨_, _, e, insL⟩
theorem shp_rws (l : List Rw) : Shp 5 (.tuple (l.map Rw.e)) := shp_tup fun d hd => by
  obtain ⟨p, _, rfl⟩ := List.mem_map.mp hd
  exact shp_rw p
theorem shp_rwsL (l : List Rw) : Shp 5 (.list (l.map Rw.e)) := shp_lst fun d hd => by
  obtain ⟨p, _, rfl⟩ := List.mem_map.mp hd
  exact shp_rw p
theorem ok_eqL (T : Tx K mg) (T2 : Tx2 w K) : Ok P w K mg base 4 ("Log", some "__eq__") ["self", "other"] (spD K (preEqL K)) := by
  have f_House___eq__ : Ok P w K mg base 3 ("House", some "__eq__") ["self", "other"] (spD K (preEqH K)) := ok_eqH T T2
  have f_Log_house := ok_L_house (P := P) (w := w) (base := base) T
  have f_Log_rows := ok_L_rows (P := P) (w := w) (base := base) T
  refine okD T.d_Log___eq__ sc_Log___eq__ (fun _ _ _ _ _ _ us hl => match us, hl with | [_, _], _ => rfl) (fun _ _ _ ⟨_, _, e, _⟩ => by rw [e]; rfl) (fun _ _ _ _ h => h) fun f cdv Ar outer s H E hr W as κ ⟨h, rs, e, k⟩ => ?_
  subst e
  refine ⟨_, (pss_cons (ps_if (pt_not (pt_val (pe_callB (call_isiK' K) (by rfl) T.b_isinstance (by decide +kernel) (pa_cons (pv 1) (pa_cons (pe_gR T.g_Log) pa_nil))))) pss_never pss_nil)
      (pss_one (ps_ret (pe_and (pe_cmpR (op_eqOk f_House___eq__ (hr.mono (by decide)) T.m_House___eq__ insF_eqH) (pe_fldK K (pv 0) rfl) (pe_pr f_Log_house T.c_Log (hr.mono (by decide)) (pv 1)) (nomark _)) (pe_one (pe_cmpR (op_eqDK K hr.units) (pe_fldK K (pv 0) rfl) (pe_pr f_Log_rows T.c_Log (hr.mono (by decide)) (pv 1)) (nomark _))))))), ?_⟩
  walk_at "eds"
  refine ed_raw ?_
  walk_at "eds"
  refine cd_isiC T2.ic_Log insL ?_
  walk_at "eds"
  refine ⟨_, fldL1 T, ?_⟩
  walk_at "eds"
  refine ⟨insL, ?_⟩
  walk_at "eds"
  refine rd_eqO insH ⟨h, rfl, _, rfl, ?_⟩
  walk_at "eds"
  refine ⟨_, fldL2 T, ?_⟩
  walk_at "eds"
  refine ⟨insL, ?_⟩
  walk_at "eds"
  refine rd_eq (shp_rws rs).ok (shp_rws rs).ok ?_
  rw [eqv_self (shp_rws rs)]
  exact ⟨k, fun _ _ z => by cases z⟩
/-! words -/
mutual
/-- the words of a datum -/
def wordsD : PyData → List Str
  | .str x => [x]
  | .int i => [toString i]
  | .tuple ds => wordsA ds
  | _ => []
def wordsA : List PyData → List Str
  | [] => []
  | d :: ds => wordsD d ++ wordsA ds
end
mutual
/-- texts, small numbers, tuples of such -/
def WdOk : Nat → PyData → Prop
  | _, .str _ => True
  | _, .int i => i.natAbs.log2 < 1920
  | n + 1, .tuple ds => ds.length ≤ 1000 ∧ WdAll n ds
  | _, _ => False
def WdAll : Nat → List PyData → Prop
  | _, [] => True
  | n, d :: ds => WdOk n d ∧ WdAll n ds
end
theorem wdAll_mem {n : Nat} : ∀ {ds : List PyData} {d : PyData}, WdAll n ds → d ∈ ds → WdOk n d
  | [], _, _, m => by cases m
  | x :: xs, d, h, m => by
    unfold WdAll at h
    rcases List.mem_cons.mp m with rfl | m
    · exact h.1
    · exact wdAll_mem h.2 m
theorem wordsA_flat : ∀ ds : List PyData, (wordsA ds).map PyData.str = ds.flatMap fun d => (wordsD d).map PyData.str
  | [] => rfl
  | d :: ds => by
    rw [wordsA, List.map_append, List.flatMap_cons, wordsA_flat ds]
abbrev s_words_of : Stmt := topS 53
abbrev N_words_of : List Str := ["value", "one", "word"]
theorem sc_words_of : FnScope N_words_of ["value"] (defScope s_words_of) := ⟨rfl, rfl, rfl, by decide +kernel, rfl, by decide +kernel, by decide +kernel⟩
abbrev preW (n : Nat) : Wd → List A → (A → Prop) → Prop := fun _ as κ => ∃ d : PyData, as = [.d d] ∧ (WdOk n d ∧ (wordsD d).length ≤ 50000) ∧ ∀ p, κ (.o p ((wordsD d).map PyData.str))
theorem words_le {ds : List PyData} {d : PyData} (m : d ∈ ds) : (wordsD d).length ≤ (wordsA ds).length := by
  induction ds with
  | nil => cases m
  | cons x xs ih =>
    rw [wordsA, List.length_append]
    rcases List.mem_cons.mp m with rfl | m
    · omega
    · have := ih m
      omega
theorem ok_words0 (T : Tx K mg) : Ok P w K mg base 1 ("words_of", none) ["value"] (spD K (preW 0)) := by
  refine okD T.d_words_of sc_words_of (fun _ _ _ _ _ _ us hl => match us, hl with | [_], _ => rfl) (fun _ _ _ ⟨_, e, _⟩ => by rw [e]; rfl) (fun _ _ _ _ h => h) fun f cdv Ar outer s H E hr W as κ ⟨d, e, ⟨hd, hl⟩, k⟩ => ?_
  subst e
  refine ⟨_, (pss_cons (ps_if (pt_val (pe_callB (call_isiK' K) (by rfl) T.b_isinstance (by decide +kernel) (pa_cons (pv 0) (pa_cons (pe_ty "str" T.b_str) pa_nil)))) (pss_one (ps_ret (pe_lst (pa_cons (pv 0) pa_nil)))) pss_nil)
      (pss_cons (ps_if (pt_val (pe_callB (call_isiK' K) (by rfl) T.b_isinstance (by decide +kernel) (pa_cons (pv 0) (pa_cons (pe_ty "tuple" T.b_tuple) pa_nil)))) pss_never pss_nil)
      (pss_one (ps_ret (pe_lst (pa_cons (pe_callTy call_str_int (by rfl) T.b_str (by decide +kernel) (pa_cons (pv 0) pa_nil)) pa_nil)))))), ?_⟩
  cases d with
  | str x =>
    walk_at "eds"
    rename_i p hp
    exact ⟨k p, fun _ _ z => by cases z; exact hp.o⟩
  | int i =>
    walk_at "eds"
    refine cd_str (by unfold WdOk at hd; exact hd) ?_
    walk_at "eds"
    rename_i p hp
    exact ⟨k p, fun _ _ z => by cases z; exact hp.o⟩
  | tuple ds => exact hd.elim
  | none => exact hd.elim
  | bool b => exact hd.elim
  | list ds => exact hd.elim
  | dict ds => exact hd.elim
theorem ok_words (T : Tx K mg) : ∀ n, Ok P w K mg base (n + 1) ("words_of", none) ["value"] (spD K (preW n))
  | 0 => ok_words0 T
  | n + 1 => by
    have f_words_of : Ok P w K mg base (n + 1) ("words_of", none) ["value"] (spD K (preW n)) := ok_words T n
    refine okD T.d_words_of sc_words_of (fun _ _ _ _ _ _ us hl => match us, hl with | [_], _ => rfl) (fun _ _ _ ⟨_, e, _⟩ => by rw [e]; rfl) (fun _ _ _ _ h => h) fun f cdv Ar outer s H E hr W as κ ⟨d, e, ⟨hd, hl⟩, k⟩ => ?_
    subst e
    refine ⟨_, (pss_cons (ps_if (pt_val (pe_callB (call_isiK' K) (by rfl) T.b_isinstance (by decide +kernel) (pa_cons (pv 0) (pa_cons (pe_ty "str" T.b_str) pa_nil)))) (pss_one (ps_ret (pe_lst (pa_cons (pv 0) pa_nil)))) pss_nil)
      (pss_cons (ps_if (pt_val (pe_callB (call_isiK' K) (by rfl) T.b_isinstance (by decide +kernel) (pa_cons (pv 0) (pa_cons (pe_ty "tuple" T.b_tuple) pa_nil)))) (pss_one (ps_ret (pe_lc2 (own := [("one", 1), ("word", 2)]) (vs1 := [2]) rfl sc_words_of.nd (pi_tupK K (pv 0)) (blkOk_by (own := [("one", 1), ("word", 2)]) (N := N_words_of) (sc := defScope s_words_of) (by decide +kernel)) (by decide) (fun _ _ _ _ _ => (pg_name (i := 1) sc_words_of.nd rfl (Or.inl rfl))) (fun _ _ _ _ _ => pts_nil) (fun _ _ _ _ _ => (pi_listK K (pe_cf f_words_of hr T.g_words_of (pa_cons (pv 1) pa_nil)))) (fun _ _ _ _ _ => (pg_name (i := 2) sc_words_of.nd rfl (Or.inl rfl))) (fun _ _ _ _ _ => pts_nil) (fun _ _ _ _ _ => (pv 2))))) pss_nil)
      (pss_one (ps_ret (pe_lst (pa_cons (pe_callTy call_str_int (by rfl) T.b_str (by decide +kernel) (pa_cons (pv 0) pa_nil)) pa_nil)))))), ?_⟩
    cases d with
    | str x =>
      walk_at "eds"
      rename_i p hp
      exact ⟨k p, fun _ _ z => by cases z; exact hp.o⟩
    | int i =>
      walk_at "eds"
      refine cd_str (by unfold WdOk at hd; exact hd) ?_
      walk_at "eds"
      rename_i p hp
      exact ⟨k p, fun _ _ z => by cases z; exact hp.o⟩
    | tuple ds =>
      unfold WdOk at hd
      unfold wordsD at hl k
      walk_at "eds"
      refine ed_lc2 (f := fun d => (wordsD d).map PyData.str) (by decide) (show 2 < 3 by decide) ?_
      walk_at "eds"
      refine ⟨by have := hd.1; omega, by rw [← wordsA_flat, List.length_map]; exact hl, fun H i d hi => ?_, fun p hp => ?_⟩
      · walk_at "eds"
        have hm := List.mem_of_getElem? hi
        refine ⟨⟨wdAll_mem hd.2 hm, Nat.le_trans (words_le hm) hl⟩, fun p (hp : New _ _ p) => ⟨p, rfl, hp.o⟩⟩
      · rw [← wordsA_flat]
        exact ⟨k p, fun _ _ z => by cases z; exact hp.o⟩
    | none => exact hd.elim
    | bool b => exact hd.elim
    | list ds => exact hd.elim
    | dict ds => exact hd.elim
end
end Q47
set_option maxHeartbeats 4000000
/-! ### lines of a log, in plain words -/
namespace Q47
open PySem L2
open PySem.W (Frag)
open PyProof.Rows (envOfC)
/-- one to five signs, no space and no end of a row among them -/
def okW (w : Str) : Bool := decide (1 ≤ w.length) && decide (w.length ≤ 5) && w.cps.toList.all fun c => decide (c ≠ 32) && decide (c ≠ 10)
theorem okW_num : ∀ n : Nat, n < 10 → okW (toString ((n : Nat) : Int)) = true := by decide +kernel
theorem okW_kd (k : Kd) : okW k.w = true := by cases k <;> decide +kernel
theorem okW_pl (p : Pl) : okW p.w = true := by
  cases p with
  | hand n => show okW "hand" = true; decide +kernel
  | box n => show okW "box" = true; decide +kernel
  | gone => show okW "gone" = true; decide +kernel
mutual
/-- small data: short words, numbers of one digit, tuples of such -/
def Sm : Nat → PyData → Prop
  | _, .str x => okW x = true
  | _, .int i => ∃ n : Nat, i = (n : Int) ∧ n < 10
  | n + 1, .tuple ds => ds.length ≤ 1000 ∧ SmA n ds
  | _, _ => False
def SmA : Nat → List PyData → Prop
  | _, [] => True
  | n, d :: ds => Sm n d ∧ SmA n ds
end
theorem log2_small : ∀ n : Nat, n < 10 → ((n : Nat) : Int).natAbs.log2 < 1920 := by decide +kernel
mutual
theorem Sm.wd : ∀ {n : Nat} {d : PyData}, Sm n d → WdOk n d
  | 0, .str _, _ => by unfold WdOk; trivial
  | _ + 1, .str _, _ => by unfold WdOk; trivial
  | 0, .int i, h => by
    unfold Sm at h
    obtain ⟨n, rfl, hn⟩ := h
    unfold WdOk
    exact log2_small n hn
  | _ + 1, .int i, h => by
    unfold Sm at h
    obtain ⟨n, rfl, hn⟩ := h
    unfold WdOk
    exact log2_small n hn
  | n + 1, .tuple ds, h => by
    unfold Sm at h
    unfold WdOk
    exact ⟨h.1, SmA.wd h.2⟩
  | 0, .tuple _, h => by unfold Sm at h; exact h.elim
  | 0, .none, h => by unfold Sm at h; exact h.elim
  | 0, .bool _, h => by unfold Sm at h; exact h.elim
  | 0, .list _, h => by unfold Sm at h; exact h.elim
  | 0, .dict _, h => by unfold Sm at h; exact h.elim
  | _ + 1, .none, h => by unfold Sm at h; exact h.elim
  | _ + 1, .bool _, h => by unfold Sm at h; exact h.elim
  | _ + 1, .list _, h => by unfold Sm at h; exact h.elim
  | _ + 1, .dict _, h => by unfold Sm at h; exact h.elim
theorem SmA.wd : ∀ {n : Nat} {ds : List PyData}, SmA n ds → WdAll n ds
  | _, [], _ => by unfold WdAll; trivial
  | n, d :: ds, h => by
    unfold SmA at h
    unfold WdAll
    exact ⟨Sm.wd h.1, SmA.wd h.2⟩
end
mutual
theorem Sm.words : ∀ {n : Nat} {d : PyData}, Sm n d → ∀ w ∈ wordsD d, okW w = true
  | 0, .str x, h, w, m => by
    unfold Sm at h
    unfold wordsD at m
    rw [List.mem_singleton.mp m]
    exact h
  | _ + 1, .str x, h, w, m => by
    unfold Sm at h
    unfold wordsD at m
    rw [List.mem_singleton.mp m]
    exact h
  | 0, .int i, h, w, m => by
    unfold Sm at h
    obtain ⟨n, rfl, hn⟩ := h
    unfold wordsD at m
    rw [List.mem_singleton.mp m]
    exact okW_num n hn
  | _ + 1, .int i, h, w, m => by
    unfold Sm at h
    obtain ⟨n, rfl, hn⟩ := h
    unfold wordsD at m
    rw [List.mem_singleton.mp m]
    exact okW_num n hn
  | n + 1, .tuple ds, h, w, m => by
    unfold Sm at h
    unfold wordsD at m
    exact SmA.words h.2 w m
  | 0, .tuple _, h, _, _ => by unfold Sm at h; exact h.elim
  | 0, .none, h, _, _ => by unfold Sm at h; exact h.elim
  | 0, .bool _, h, _, _ => by unfold Sm at h; exact h.elim
  | 0, .list _, h, _, _ => by unfold Sm at h; exact h.elim
  | 0, .dict _, h, _, _ => by unfold Sm at h; exact h.elim
  | _ + 1, .none, h, _, _ => by unfold Sm at h; exact h.elim
  | _ + 1, .bool _, h, _, _ => by unfold Sm at h; exact h.elim
  | _ + 1, .list _, h, _, _ => by unfold Sm at h; exact h.elim
  | _ + 1, .dict _, h, _, _ => by unfold Sm at h; exact h.elim
theorem SmA.words : ∀ {n : Nat} {ds : List PyData}, SmA n ds → ∀ w ∈ wordsA ds, okW w = true
  | _, [], _, w, m => by cases m
  | n, d :: ds, h, w, m => by
    unfold SmA at h
    unfold wordsA at m
    rcases List.mem_append.mp m with m | m
    · exact Sm.words h.1 w m
    · exact SmA.words h.2 w m
end
theorem smA_map {α : Type} {n : Nat} {f : α → PyData} : ∀ {l : List α}, (∀ a ∈ l, Sm n (f a)) → SmA n (l.map f)
  | [], _ => by
    show SmA n []
    unfold SmA
    trivial
  | a :: l, h => by
    rw [List.map_cons]
    unfold SmA
    exact ⟨h a List.mem_cons_self, smA_map fun b hb => h b (List.mem_cons_of_mem _ hb)⟩
theorem sm_s {n : Nat} {x : Str} (h : okW x = true) : Sm n (.str x) := by
  cases n <;> (unfold Sm; exact h)
theorem sm_i {n m : Nat} (h : m < 10) : Sm n (.int (m : Int)) := by
  cases n <;> (unfold Sm; exact ⟨m, rfl, h⟩)
theorem sm_2 {n : Nat} {a b : PyData} (ha : Sm n a) (hb : Sm n b) : Sm (n + 1) (.tuple [a, b]) := by
  unfold Sm
  refine ⟨by show 2 ≤ 1000; decide, ?_⟩
  unfold SmA SmA SmA
  exact ⟨ha, hb, trivial⟩
theorem sm_3 {n : Nat} {a b c : PyData} (ha : Sm n a) (hb : Sm n b) (hc : Sm n c) : Sm (n + 1) (.tuple [a, b, c]) := by
  unfold Sm
  refine ⟨by show 3 ≤ 1000; decide, ?_⟩
  unfold SmA SmA SmA SmA
  exact ⟨ha, hb, hc, trivial⟩
theorem sm_4 {n : Nat} {a b c e : PyData} (ha : Sm n a) (hb : Sm n b) (hc : Sm n c) (he : Sm n e) : Sm (n + 1) (.tuple [a, b, c, e]) := by
  unfold Sm
  refine ⟨by show 4 ≤ 1000; decide, ?_⟩
  unfold SmA SmA SmA SmA SmA
  exact ⟨ha, hb, hc, he, trivial⟩
theorem it_small {h : Hs} {i : It} (hh : HsOk h) (hi : ItOk h i) : i.n < 10 := by
  have := hh.b2
  have := hh.t4
  have := hh.s3
  obtain ⟨k, n⟩ := i
  cases k with
  | box => have q : n < h.boxes.length := hi; show n < 10; omega
  | sl => have q : n < h.seals.length := hi; show n < 10; omega
  | thing => have q : n < h.things.length := hi; show n < 10; omega
theorem pl_small {h : Hs} {p : Pl} (hh : HsOk h) (hp : PlIn h.hands h.boxes.length p) : p.n < 10 := by
  have := hh.b2
  have := hh.h3
  cases p with
  | hand n => have q : n < h.hands := hp; show n < 10; omega
  | box n => have q : n < h.boxes.length := hp; show n < 10; omega
  | gone => exact hp.elim
theorem sm_it {n : Nat} {i : It} (h : i.n < 10) : Sm (n + 1) i.e := sm_2 (sm_s (okW_kd _)) (sm_i h)
theorem sm_pl {n : Nat} {p : Pl} (h : p.n < 10) : Sm (n + 1) p.e := sm_2 (sm_s (okW_pl _)) (sm_i h)
theorem sm_dd {h : Hs} {d : Dd} (hh : HsOk h) (hd : DdOk h d) : Sm 4 d.e := by
  have h3 := hh.h3
  have b2 := hh.b2
  have s3 := hh.s3
  cases d with
  | give x i o => exact sm_4 (sm_s (by decide +kernel)) (sm_i (by have := hd.1; omega)) (sm_it (it_small hh hd.2.1)) (sm_i (by have := hd.2.2.1; omega))
  | put x i b => exact sm_4 (sm_s (by decide +kernel)) (sm_i (by have := hd.1; omega)) (sm_it (it_small hh hd.2.1)) (sm_i (by have := hd.2.2.2.1; omega))
  | take x i b => exact sm_4 (sm_s (by decide +kernel)) (sm_i (by have := hd.1; omega)) (sm_it (it_small hh hd.2.1)) (sm_i (by have := hd.2.2.2.1; omega))
  | sl x b s => exact sm_4 (sm_s (by decide +kernel)) (sm_i (by have := hd.1; omega)) (sm_i (by have := hd.2.1; omega)) (sm_i (by have := hd.2.2; omega))
  | brk x b => exact sm_3 (sm_s (by decide +kernel)) (sm_i (by have := hd.1; omega)) (sm_i (by have := hd.2; omega))
theorem sm_sg {n : Nat} {h : Hs} {g : Sg} (hh : HsOk h) (hg : SgOk h g) : Sm (n + 3) g.e := by
  have h3 := hh.h3
  have b2 := hh.b2
  have s3 := hh.s3
  cases g with
  | at_ i p => exact sm_3 (sm_s (by decide +kernel)) (sm_it (it_small hh hg.1)) (sm_pl (pl_small hh hg.2))
  | bare b => exact sm_2 (sm_s (by decide +kernel)) (sm_i (by have q : b < h.boxes.length := hg; omega))
  | inn b is =>
    refine sm_3 (sm_s (by decide +kernel)) (sm_i (by have := hg.1; omega)) ?_
    unfold Sm
    refine ⟨by rw [List.length_map]; have := hg.2.2.2; omega, smA_map fun i hi => sm_it (it_small hh (hg.2.1 i hi).1)⟩
  | gone s => exact sm_2 (sm_s (by decide +kernel)) (sm_i (by have q : s < h.seals.length := hg; omega))
theorem sm_rw {h : Hs} {r : Rw} (hh : HsOk h) (hr : RwOk h r) : Sm 4 r.e := by
  cases r with
  | deed d => exact sm_dd hh hr
  | sight g => exact sm_sg hh hr
  | nots g => exact sm_2 (sm_s (by decide +kernel)) (sm_sg hh hr)
  | gap hs =>
    refine sm_2 (sm_s (by decide +kernel)) ?_
    unfold Sm
    refine ⟨by rw [List.length_map]; have := hr.2.2; omega, smA_map fun x hx => sm_i (by have := hr.1 x hx; have := hh.h3; omega)⟩
theorem words_nats (l : List Nat) : (wordsA (l.map fun n : Nat => .int (n : Int))).length = l.length := by
  induction l with
  | nil => rfl
  | cons a l ih =>
    rw [List.map_cons, wordsA, List.length_append, ih, List.length_cons]
    unfold wordsD
    simp
    omega
theorem words_its (l : List It) : (wordsA (l.map It.e)).length = 2 * l.length := by
  induction l with
  | nil => rfl
  | cons a l ih =>
    rw [List.map_cons, wordsA, List.length_append, ih, List.length_cons]
    unfold It.e wordsD wordsA wordsA wordsA
    simp [wordsD]
    omega
theorem few_rw {h : Hs} {r : Rw} (hr : RwOk h r) : (wordsD r.e).length ≤ 20 := by
  cases r with
  | deed d => cases d <;> simp [Rw.e, Dd.e, It.e, wordsD, wordsA]
  | sight g =>
    cases g with
    | inn b is =>
      have := hr.2.2.2
      have q := words_its is
      simp [Rw.e, Sg.e, wordsD, wordsA]
      omega
    | at_ i p => simp [Rw.e, Sg.e, wordsD, wordsA]
    | bare b => simp [Rw.e, Sg.e, wordsD, wordsA]
    | gone s => simp [Rw.e, Sg.e, wordsD, wordsA]
  | nots g =>
    cases g with
    | inn b is =>
      have := hr.2.2.2
      have q := words_its is
      simp [Rw.e, Sg.e, wordsD, wordsA]
      omega
    | at_ i p => simp [Rw.e, Sg.e, wordsD, wordsA]
    | bare b => simp [Rw.e, Sg.e, wordsD, wordsA]
    | gone s => simp [Rw.e, Sg.e, wordsD, wordsA]
  | gap hs =>
    have := hr.2.2
    have q := words_nats hs
    simp [Rw.e, wordsD, wordsA]
    omega
/-! lines -/
def plLine (w : Str) (p : Pl) : Str := Txt.join " " (w :: wordsD p.e)
def hdLine (h : Hs) : Str := Txt.join " " ["hands", toString (h.hands : Int)]
def hLines (h : Hs) : List Str := hdLine h :: (h.boxes.map (plLine "box") ++ h.things.map (plLine "thing") ++ h.seals.map (plLine "seal"))
def rLine (r : Rw) : Str := Txt.join " " (wordsD r.e)
def allLines (h : Hs) (rs : List Rw) : List Str := hLines h ++ [("log" : Str)] ++ rs.map rLine
def logText (h : Hs) (rs : List Rw) : Str := Txt.join "\n" (allLines h rs)
theorem joinL_len (S : List Nat) : ∀ ps : List (List Nat), (TL.joinL S ps).length ≤ (ps.map List.length).sum + ps.length * S.length
  | [] => by simp [TL.joinL]
  | [p] => by simp [TL.joinL]
  | p :: q :: r => by
    have ih := joinL_len S (q :: r)
    simp only [TL.joinL, List.length_append, List.map_cons, List.sum_cons, List.length_cons, Nat.add_mul, Nat.one_mul] at ih ⊢
    omega
theorem len_tl (x : Str) : (TL.tl x).length = x.length := by
  show x.cps.toList.length = x.cps.size
  simp
theorem join_len (y : Str) (ps : List Str) : (Txt.join y ps).length ≤ (ps.map (·.length)).sum + ps.length * y.length := by
  have q := joinL_len (TL.tl y) (ps.map TL.tl)
  rw [← TL.tl_join, ← TL.join_eq, len_tl, len_tl, List.map_map, List.length_map] at q
  have e : (ps.map (List.length ∘ TL.tl)) = ps.map (·.length) := List.map_congr_left fun x _ => len_tl x
  rw [e] at q
  exact q
theorem sum_le {l : List Str} {m : Nat} (h : ∀ w ∈ l, w.length ≤ m) : (l.map (·.length)).sum ≤ l.length * m := by
  induction l with
  | nil => simp
  | cons a l ih =>
    have h1 := h a List.mem_cons_self
    have h2 := ih fun w hw => h w (List.mem_cons_of_mem _ hw)
    simp only [List.map_cons, List.sum_cons, List.length_cons, Nat.add_mul, Nat.one_mul]
    omega
theorem okW_len {w : Str} (h : okW w = true) : w.length ≤ 5 := by
  unfold okW at h
  simp only [Bool.and_eq_true, decide_eq_true_eq] at h
  exact h.1.2
end Q47
set_option maxHeartbeats 4000000
/-! ### the lines as they are written -/
namespace Q47
open PySem L2
open PySem.W (Frag)
open PyProof.Rows (envOfC)
section
variable {K : Frag} {W : Wd} {Γ : Gm} {κ : A → Prop} {N : Gm → Prop} {R : A → Prop} {te tx : TE}
theorem ed_join (h : ED K W tx Γ fun a => ∃ s, a = .d (.str s) ∧ ED K W te Γ fun b => ∃ (p : Addr) (ys : List Str), b = .o p (ys.map PyData.str) ∧ (ys.map (·.length)).sum + ys.length * s.length ≤ 16777216 ∧ κ (.d (.str (Txt.join s ys)))) : ED K W (tM1 (rJoinK K) tx te) Γ κ := fun σ H Q e s q =>
  h σ H _ e s fun v H1 a r1 s1 ha k => by
    obtain ⟨x, rfl, k⟩ := k
    cases ha
    refine ⟨⟨x, rfl⟩, k σ H1 _ (e.keep s r1) s1 fun u H2 b r2 s2 hb k2 => ?_⟩
    obtain ⟨p, ys, rfl, hl, k2⟩ := k2
    obtain ⟨rfl, _, us, h1, h2⟩ := hb
    have e := h2.of_strs
    subst e
    exact ⟨x, p, ys, rfl, rfl, .inl (SqL.of h1), hl, q _ H2 (.d _) (r1.trans r2) s2 (Rt.str _) k2⟩
/-- xs.extend(ys) -/
theorem sd_ext {i : Nat} {p : Addr} {xs : List PyData} (hp : Γ[i]? = some (some (.o p xs))) (ho : ¬ W.O p) (hne : ∀ (j : Nat) q ys, j ≠ i → Γ[j]? = some (some (.o q ys)) → q ≠ p)
    (h : ED K W te Γ fun a => ∃ q ys, a = .o q ys ∧ xs.length + ys.length ≤ 100000 ∧ N (Γ.set i (some (.o p (xs ++ ys))))) : SD K W (tDrop (tBM K "list" rExtend (tVar i) (tCons te tNil))) Γ N R := fun σ H D e s hn _ => by
  obtain ⟨v, h1, rfl, hm, vs, h2, h3⟩ := e.at_ i _ hp
  refine ⟨_, h1, .inl ⟨rfl, _, SqL.of h2⟩, ?_⟩
  refine h σ H _ e s fun y H1 a r1 s1 ha k => ?_
  obtain ⟨b, ds, rfl, hl, k⟩ := k
  obtain ⟨rfl, _, us, h4, h5⟩ := ha
  have h2' := r1 _ _ hm h2
  have l3 := h3.length
  have l5 := h5.length
  refine ⟨p, b, vs, us, rfl, rfl, h2', h4, Nat.le_trans (show _ ≤ 100000 by omega) (by decide), ?_⟩
  have kp1 : Kp H1 (upd H1 p (.lst (vs ++ us))) := fun c ob n q => by
    rw [upd_ne (fun z => by rw [z, h2'] at q; cases q; exact n)]
    exact q
  have s2 : W.S (upd H1 p (.lst (vs ++ us))) := W.mono _ _ s1 fun c ob mo q => by
    rw [upd_ne (fun z => by
      rw [z] at mo
      exact mo.elim hm ho)]
    exact q
  refine hn σ _ _ ⟨fun c ob bo bm q => ?_, (r1.kp s).trans kp1⟩ s2 ?_ k
  · rw [upd_ne (fun z => by rw [z] at bo; exact ho bo)]
    exact r1 c ob bm q
  · refine ⟨by rw [List.length_set]; exact e.len, fun j c hb => ?_⟩
    by_cases hij : i = j
    · subst hij
      have hi : i < Γ.length := (List.getElem?_eq_some_iff.mp hp).1
      rw [List.getElem?_set_self hi] at hb
      cases hb
      exact ⟨_, h1, rfl, hm, _, upd_same, (RtA.keep ((r1.kp s).trans kp1) h3).append (h5.keep kp1)⟩
    · rw [List.getElem?_set_ne hij] at hb
      obtain ⟨u, g1, g2⟩ := e.at_ j c hb
      refine ⟨u, g1, ?_⟩
      have g3 := g2.keep s r1
      cases c with
      | d x => exact Rt.keep kp1 g3
      | o q ys =>
        obtain ⟨e1, m1, us, e2, e3⟩ := g3
        exact ⟨e1, m1, us, by rw [upd_ne (hne j q ys (Ne.symm hij) hb)]; exact e2, e3.keep kp1⟩
      | v x => exact g3
      | p P => exact fun H2 k2 => g3 H2 (kp1.trans k2)
end
local macro_rules | `(tactic| walk_at "kit") => `(tactic| first | with_reducible exact kit_int_int | with_reducible exact kit_int_bool | with_reducible exact kit_int_str | with_reducible exact kit_int_tuple | with_reducible exact kit_int_list | with_reducible exact kit_int_dict | with_reducible exact kit_str_int | with_reducible exact kit_str_bool | with_reducible exact kit_str_str | with_reducible exact kit_str_tuple | with_reducible exact kit_str_list | with_reducible exact kit_str_dict | with_reducible exact kit_tuple_int | with_reducible exact kit_tuple_bool | with_reducible exact kit_tuple_str | with_reducible exact kit_tuple_tuple | with_reducible exact kit_tuple_list | with_reducible exact kit_tuple_dict | with_reducible exact kit_list_int | with_reducible exact kit_list_bool | with_reducible exact kit_list_str | with_reducible exact kit_list_tuple | with_reducible exact kit_list_list | with_reducible exact kit_list_dict)
local macro_rules | `(tactic| walk_at "shp") => `(tactic| first
  | with_reducible exact (shp_int _).ok
  | with_reducible exact (shp_pl _).ok
  | with_reducible exact (shp_bool _).ok
  | with_reducible exact (shp_it _).ok
  | with_reducible exact (shp_str (by decide +kernel)).ok
  | with_reducible exact (shp_2 (shp_str (by decide +kernel)) (shp_int _)).ok
  | with_reducible exact (shp_st _).ok
  | with_reducible exact (shp_str (kd_ok _)).ok
  | with_reducible exact (shp_str (pl_ok _)).ok
  | with_reducible exact (shp_pls _).ok
  | with_reducible exact (shp_hs _).ok
  | with_reducible exact shp_nil.ok
  | with_reducible exact (shp_dd _).ok
  | with_reducible exact (shp_sg _).ok
  | with_reducible exact (shp_rw _).ok
  | assumption)
local macro_rules | `(tactic| walk_at "ed") => `(tactic| first
  | ((with_reducible refine' ed_var ?hv ?_); (case hv => exact rfl))
  | with_reducible refine ed_int ?_
  | with_reducible refine ed_str ?_
  | with_reducible refine ed_bl ?_
  | with_reducible refine ed_non ?_
  | with_reducible refine edd_cons ?_
  | with_reducible refine edd_nil ?_
  | with_reducible refine eda_cons ?_
  | with_reducible refine eda_nil ?_
  | with_reducible refine ⟨_, rfl, _, fldH1 ‹_›, ?_⟩
  | with_reducible refine ⟨_, rfl, _, fldH2 ‹_›, ?_⟩
  | with_reducible refine ⟨_, rfl, _, fldH3 ‹_›, ?_⟩
  | with_reducible refine ⟨_, rfl, _, fldH4 ‹_›, ?_⟩
  | with_reducible refine ⟨_, rfl, insH, ?_⟩
  | with_reducible refine ⟨_, rfl, ?_⟩
  | with_reducible refine ⟨_, _, rfl, ?_⟩
  | with_reducible refine ⟨_, _, _, rfl, ?_⟩
  | with_reducible refine ed_tupD ?_
  | with_reducible refine ed_lstD ?_
  | with_reducible refine ed_op ?_
  | with_reducible refine ed_chain ?_
  | with_reducible refine ed_fld ?_
  | with_reducible refine ed_prop ?_
  | with_reducible refine ed_meth ?_
  | with_reducible refine gd_tup rfl ?_
  | with_reducible refine gds_cons ?_
  | with_reducible refine gds_nil ?_
  | with_reducible refine ed_slHi ?_
  | with_reducible refine ed_slLo ?_
  | ((with_reducible refine' cd_isiI ?hb ?_); (case hb => walk_at "kit"))
  | ((with_reducible refine' cd_isiS ?hb ?_); (case hb => walk_at "kit"))
  | ((with_reducible refine' cd_isiT ?hb ?_); (case hb => walk_at "kit"))
  | ((with_reducible refine' cd_isiL ?hb ?_); (case hb => walk_at "kit"))
  | with_reducible refine ed_ty ?_
  | with_reducible refine fun (_ : NewA _ _ _) => ?_
  | with_reducible refine ed_lstRg ?_
  | with_reducible refine ed_cb ?_
  | with_reducible refine ed_call ?_
  | with_reducible refine ed_and ?_
  | with_reducible refine ed_or ?_
  | with_reducible refine ed_not ?_
  | with_reducible refine ed_if ?_
  | with_reducible refine td_test ?_
  | with_reducible refine td_B ?_
  | with_reducible refine td_and ?_
  | with_reducible refine td_or ?_
  | with_reducible refine td_not ?_
  | with_reducible refine td_yes ?_
  | with_reducible refine rd_I0 ?_
  | with_reducible refine rd_eqT ?_
  | with_reducible refine rd_neT ?_
  | with_reducible refine rd_B0 ?_
  | ((with_reducible refine rd_eq ?hx ?hy ?_); (case hx => walk_at "shp"); (case hy => walk_at "shp"))
  | ((with_reducible refine rd_ne ?hx ?hy ?_); (case hx => walk_at "shp"); (case hy => walk_at "shp"))
  | ((with_reducible refine' rd_ixTi ?h0 ?hi ?_); (case h0 => decide); (case hi => exact rfl))
  | ((with_reducible refine len_ok ?hl ?_); (case hl => exact rfl))
  | ((with_reducible refine ed_dsel3 ?a12 ?a13 ?a23 ?_); (case a12 => decide +kernel); (case a13 => decide +kernel); (case a23 => decide +kernel))
  | with_reducible refine fun _ (_ : New _ _ _) => ?_
  | with_reducible refine cd_lenK (.inr ⟨_, rfl, ?_⟩)
  | with_reducible refine cd_lenK (.inl ⟨_, _, rfl, ?_⟩)
  | with_reducible refine cd_tupleK ?_
  | ((with_reducible refine if_t ?hc ?_); (case hc => first | rfl | decide +kernel))
  | ((with_reducible refine if_f ?hc ?_); (case hc => first | rfl | decide +kernel))
  | with_reducible refine sd_par ?_
  | with_reducible refine sd_par3 ?_
  | with_reducible refine sd_next ?_
  | with_reducible refine sd_ret ?_
  | with_reducible refine sd_drop ?_
  | with_reducible refine sd_seq ?_
  | with_reducible refine sd_asg ?_
  | with_reducible refine gd_name ?_
  | with_reducible refine sd_if ?_)
local macro_rules | `(tactic| walk_at "out") => `(tactic| exact ⟨by assumption, fun _ _ z => by cases z⟩)
local macro_rules | `(tactic| walk_at "eds") => `(tactic| repeat walk_at "ed")

section
variable {P : Program} {w : World} {K : Frag} {mg : Str → Option Value} {base : Heap}
theorem jw_ok {ys : List Str} (h : ∀ w ∈ ys, okW w = true) (hl : ys.length ≤ 30) : (ys.map (·.length)).sum + ys.length * (" " : Str).length ≤ 16777216 := by
  have q := sum_le (m := 5) fun w hw => okW_len (h w hw)
  rw [show (" " : Str).length = 1 by decide +kernel]
  omega
theorem jw_len {ys : List Str} (h : ∀ w ∈ ys, okW w = true) (hl : ys.length ≤ 30) : (Txt.join " " ys).length ≤ 200 := by
  have q := sum_le (m := 5) fun w hw => okW_len (h w hw)
  have q2 := join_len " " ys
  rw [show (" " : Str).length = 1 by decide +kernel] at q2
  omega
theorem pl_words {p : Pl} (hp : p.n < 10) : ∀ w ∈ wordsD p.e, okW w = true := Sm.words (n := 1) (sm_pl hp)
theorem pl_line {wd : Str} {p : Pl} (hw : okW wd = true) (hp : p.n < 10) : ∀ w ∈ wd :: wordsD p.e, okW w = true := fun w m => by
  rcases List.mem_cons.mp m with rfl | m
  · exact hw
  · exact pl_words hp w m
theorem pl_few (p : Pl) : (wordsD p.e).length = 2 := by simp [wordsD, wordsA]
theorem strs_more {α : Type} {l : List α} {f : α → Str} {i : Nat} {p : α} (h : l[i]? = some p) : ((l.take i).map fun p => PyData.str (f p)) ++ [.str (f p)] = (l.take (i + 1)).map fun p => PyData.str (f p) := by
  rw [List.take_succ, h, List.map_append]
  rfl
theorem strs_all {α : Type} {l : List α} {f : α → Str} {xs : List Str} {n : Nat} (h : n = l.length) : xs.map PyData.str ++ ((l.take n).map fun p => PyData.str (f p)) = (xs ++ l.map f).map PyData.str := by
  rw [h, List.take_length, List.map_append, List.map_map]
  rfl
def hPart (h : Hs) : Nat → List Str
  | 0 => [hdLine h]
  | 1 => [hdLine h] ++ h.boxes.map (plLine "box")
  | 2 => [hdLine h] ++ h.boxes.map (plLine "box") ++ h.things.map (plLine "thing")
  | _ => [hdLine h] ++ h.boxes.map (plLine "box") ++ h.things.map (plLine "thing") ++ h.seals.map (plLine "seal")
theorem hPart_all (h : Hs) : hPart h 3 = hLines h := by
  unfold hPart hLines
  simp
theorem hPart_len {h : Hs} (hh : HsOk h) (i : Nat) : (hPart h i).length ≤ 20 := by
  have := hh.b2
  have := hh.t4
  have := hh.s3
  unfold hPart
  split <;> simp only [List.length_append, List.length_map, List.length_cons, List.length_nil] <;> omega
theorem pls_small {h : Hs} (hh : HsOk h) : (∀ p ∈ h.boxes, p.n < 10) ∧ (∀ p ∈ h.things, p.n < 10) ∧ ∀ p ∈ h.seals, p.n < 10 := by
  refine ⟨fun p m => ?_, fun p m => pl_small hh (hh.thing p m), fun p m => pl_small hh (hh.sealp p m)⟩
  obtain ⟨i, hi, e⟩ := List.mem_iff_getElem.mp m
  have q := hh.box i p (by rw [List.getElem?_eq_getElem hi, e])
  have := hh.b2
  have := hh.h3
  cases p with
  | hand n => have q' : n < h.hands := q; show n < 10; omega
  | box n => have q' : n < i := q; show n < 10; omega
  | gone => exact q.elim
abbrev s_house_rows : Stmt := topS 54
abbrev N_house_rows : List Str := ["house", "found", "word", "places", "place"]
theorem sc_house_rows : FnScope N_house_rows ["house"] (defScope s_house_rows) := ⟨rfl, rfl, rfl, by decide +kernel, rfl, by decide +kernel, by decide +kernel⟩
abbrev preHR (K : Frag) : Wd → List A → (A → Prop) → Prop := fun _ as κ => ∃ h : Hs, as = [.p (HouseAt K h)] ∧ HsOk h ∧ ∀ p, κ (.o p ((hLines h).map PyData.str))
theorem ok_hrows (T : Tx K mg) : Ok P w K mg base 3 ("house_rows", none) ["house"] (spD K (preHR K)) := by
  have f_words_of : Ok P w K mg base 2 ("words_of", none) ["value"] (spD K (preW 1)) := ok_words T 1
  have f_House_hands := ok_H_hands (P := P) (w := w) (base := base) T
  have f_House_boxes := ok_H_boxes (P := P) (w := w) (base := base) T
  have f_House_things := ok_H_things (P := P) (w := w) (base := base) T
  have f_House_seals := ok_H_seals (P := P) (w := w) (base := base) T
  refine okD T.d_house_rows sc_house_rows (fun _ _ _ _ _ _ us hl => match us, hl with | [_], _ => rfl) (fun _ _ _ ⟨_, e, _⟩ => by rw [e]; rfl) (fun _ _ _ _ h => h) fun f cdv Ar outer s H E hr W as κ ⟨h, e, hh, k⟩ => ?_
  subst e
  refine ⟨_, (pss_cons (ps_set (i := 1) sc_house_rows.nd rfl (Or.inl rfl) (pe_lst (pa_cons (pe_joinK K pe_str (pe_lst (pa_cons (pe_gS T.s_HANDS) (pa_cons (pe_callTy call_str_int (by rfl) T.b_str (by decide +kernel) (pa_cons (pe_pr f_House_hands T.c_House (hr.mono (by decide)) (pv 0)) pa_nil)) pa_nil)))) pa_nil)))
      (pss_cons (ps_for PassesOwn.never rfl (pi_tupK K (pe_tup (pa_cons (pe_tup (pa_cons (pe_gS T.s_BOX) (pa_cons (pe_pr f_House_boxes T.c_House (hr.mono (by decide)) (pv 0)) pa_nil))) (pa_cons (pe_tup (pa_cons (pe_gS T.s_THING) (pa_cons (pe_pr f_House_things T.c_House (hr.mono (by decide)) (pv 0)) pa_nil))) (pa_cons (pe_tup (pa_cons (pe_gS T.s_SEAL) (pa_cons (pe_pr f_House_seals T.c_House (hr.mono (by decide)) (pv 0)) pa_nil))) pa_nil))))) (pg_tupK (n := 2) K rfl (pgs_cons (pg_name (i := 2) sc_house_rows.nd rfl (Or.inr rfl)) (pgs_cons (pg_name (i := 3) sc_house_rows.nd rfl (Or.inl rfl)) pgs_nil))) (pss_one (ps_expr (pe_bmK K PySem.F.plainAttrs_list PySem.F.slot_list_extend PySem.F.type_list_extend mt_extend (pv 1) (pa_cons (pe_lc (own := [("place", 4)]) rfl sc_house_rows.nd (pi_tupK K (pv 3)) (blkOk_by (own := [("place", 4)]) (N := N_house_rows) (sc := defScope s_house_rows) (by decide +kernel)) (fun _ _ _ _ _ => (pg_name (i := 4) sc_house_rows.nd rfl (Or.inl rfl))) (fun _ _ _ _ _ => pts_nil) (fun _ _ _ _ _ => (pe_joinK K pe_str (pe_op op_cat (pe_lst (pa_cons (pv 2) pa_nil)) (pe_cf f_words_of (hr.mono (by decide)) T.g_words_of (pa_cons (pv 4) pa_nil)))))) pa_nil)))))
      (pss_one (ps_ret (pv 1))))), ?_⟩
  have h3 := hh.h3
  have b2 := hh.b2
  have t4 := hh.t4
  have s3 := hh.s3
  obtain ⟨pb, pt, ps⟩ := pls_small hh
  walk_at "eds"
  refine ed_join ?_
  walk_at "eds"
  refine cd_str (log2_small _ (by omega)) ?_
  walk_at "eds"
  refine ⟨_, ["hands", toString (h.hands : Int)], rfl, jw_ok (fun w m => ?_) (by show 2 ≤ 30; decide), ?_⟩
  · rcases List.mem_cons.mp m with rfl | m
    · decide +kernel
    · rw [List.mem_singleton.mp m]
      exact okW_num _ (by omega)
  walk_at "eds"
  rename_i pf npf
  refine sd_forT (ds := [.tuple [.str "box", plsE h.boxes], .tuple [.str "thing", plsE h.things], .tuple [.str "seal", plsE h.seals]]) (fun i Γ' => ∃ x y, Γ' = [some (.p (HouseAt K h)), some (.o pf ((hPart h i).map PyData.str)), x, y, none]) ?_ ⟨none, none, rfl⟩ (fun i d Γ' hd ⟨x, y, e⟩ => ?_) (fun Γ' ⟨x, y, e⟩ => ?_)
  · walk_at "eds"
    rfl
  · match i, hd with
    | 0, hd =>
      cases hd
      subst e
      refine gd_tup rfl (gds_cons (gd_name (gds_cons (gd_name (gds_nil ?_)))))
      refine sd_ext (p := pf) rfl npf.o (hne_of trivial) ?_
      refine ed_lcT (by decide) ?_
      walk_at "eds"
      refine ⟨by rw [List.length_map]; omega, fun i acc => acc = (h.boxes.take i).map fun p => PyData.str (plLine "box" p), rfl, fun i d acc hd ea => ?_, fun q acc hq hl ea => ?_⟩
      · obtain ⟨p, hp, rfl⟩ := map_at' hd
        have hp10 := pb p (List.mem_of_getElem? hp)
        walk_at "eds"
        refine ed_join ?_
        walk_at "eds"
        refine ⟨⟨Sm.wd (sm_pl hp10), by rw [pl_few]; decide⟩, fun p2 hp2 => ?_⟩
        refine rd_cat (by rw [List.length_map, pl_few]; decide) fun q hq => ?_
        refine ⟨q, "box" :: wordsD p.e, rfl, jw_ok (pl_line (by decide +kernel) hp10) (by rw [List.length_cons, pl_few]; decide), ⟨_, rfl, ?_⟩⟩
        rw [ea]
        exact strs_more (f := plLine "box") hp
      · rw [List.length_map] at ea hl
        have hpl := hPart_len hh 0
        refine ⟨_, _, rfl, by rw [List.length_map]; omega, some (.d (.str "box")), some (.d (plsE h.boxes)), ?_⟩
        rw [ea, strs_all rfl]
        rfl
    | 1, hd =>
      cases hd
      subst e
      refine gd_tup rfl (gds_cons (gd_name (gds_cons (gd_name (gds_nil ?_)))))
      refine sd_ext (p := pf) rfl npf.o (hne_of trivial) ?_
      refine ed_lcT (by decide) ?_
      walk_at "eds"
      refine ⟨by rw [List.length_map]; omega, fun i acc => acc = (h.things.take i).map fun p => PyData.str (plLine "thing" p), rfl, fun i d acc hd ea => ?_, fun q acc hq hl ea => ?_⟩
      · obtain ⟨p, hp, rfl⟩ := map_at' hd
        have hp10 := pt p (List.mem_of_getElem? hp)
        walk_at "eds"
        refine ed_join ?_
        walk_at "eds"
        refine ⟨⟨Sm.wd (sm_pl hp10), by rw [pl_few]; decide⟩, fun p2 hp2 => ?_⟩
        refine rd_cat (by rw [List.length_map, pl_few]; decide) fun q hq => ?_
        refine ⟨q, "thing" :: wordsD p.e, rfl, jw_ok (pl_line (by decide +kernel) hp10) (by rw [List.length_cons, pl_few]; decide), ⟨_, rfl, ?_⟩⟩
        rw [ea]
        exact strs_more (f := plLine "thing") hp
      · rw [List.length_map] at ea hl
        have hpl := hPart_len hh 1
        refine ⟨_, _, rfl, by rw [List.length_map]; omega, some (.d (.str "thing")), some (.d (plsE h.things)), ?_⟩
        rw [ea, strs_all rfl]
        rfl
    | 2, hd =>
      cases hd
      subst e
      refine gd_tup rfl (gds_cons (gd_name (gds_cons (gd_name (gds_nil ?_)))))
      refine sd_ext (p := pf) rfl npf.o (hne_of trivial) ?_
      refine ed_lcT (by decide) ?_
      walk_at "eds"
      refine ⟨by rw [List.length_map]; omega, fun i acc => acc = (h.seals.take i).map fun p => PyData.str (plLine "seal" p), rfl, fun i d acc hd ea => ?_, fun q acc hq hl ea => ?_⟩
      · obtain ⟨p, hp, rfl⟩ := map_at' hd
        have hp10 := ps p (List.mem_of_getElem? hp)
        walk_at "eds"
        refine ed_join ?_
        walk_at "eds"
        refine ⟨⟨Sm.wd (sm_pl hp10), by rw [pl_few]; decide⟩, fun p2 hp2 => ?_⟩
        refine rd_cat (by rw [List.length_map, pl_few]; decide) fun q hq => ?_
        refine ⟨q, "seal" :: wordsD p.e, rfl, jw_ok (pl_line (by decide +kernel) hp10) (by rw [List.length_cons, pl_few]; decide), ⟨_, rfl, ?_⟩⟩
        rw [ea]
        exact strs_more (f := plLine "seal") hp
      · rw [List.length_map] at ea hl
        have hpl := hPart_len hh 2
        refine ⟨_, _, rfl, by rw [List.length_map]; omega, some (.d (.str "seal")), some (.d (plsE h.seals)), ?_⟩
        rw [ea, strs_all rfl]
        rfl
    | n + 3, hd => simp at hd
  · subst e
    walk_at "eds"
    have q := k pf
    rw [← hPart_all] at q
    exact ⟨q, fun _ _ z => by cases z; exact npf.o⟩
theorem line_len {h : Hs} {rs : List Rw} (hh : HsOk h) (hr : ∀ r ∈ rs, RwOk h r) : ∀ w ∈ allLines h rs, w.length ≤ 200 := fun w m => by
  obtain ⟨pb, pt, ps⟩ := pls_small hh
  have h3 := hh.h3
  have pl : ∀ (wd : Str) (p : Pl), okW wd = true → p.n < 10 → (plLine wd p).length ≤ 200 := fun wd p hw hp => jw_len (pl_line hw hp) (by rw [List.length_cons, pl_few]; decide)
  unfold allLines hLines at m
  simp only [List.mem_append, List.mem_cons, List.mem_map, List.not_mem_nil, or_false] at m
  rcases m with ((rfl | ((⟨p, hp, rfl⟩ | ⟨p, hp, rfl⟩) | ⟨p, hp, rfl⟩)) | rfl) | ⟨r, hr', rfl⟩
  · refine jw_len (fun w m => ?_) (by show 2 ≤ 30; decide)
    rcases List.mem_cons.mp m with rfl | m
    · decide +kernel
    · rw [List.mem_singleton.mp m]
      exact okW_num _ (by omega)
  · exact pl _ p (by decide +kernel) (pb p hp)
  · exact pl _ p (by decide +kernel) (pt p hp)
  · exact pl _ p (by decide +kernel) (ps p hp)
  · decide +kernel
  · exact jw_len (Sm.words (sm_rw hh (hr r hr'))) (Nat.le_trans (few_rw (hr r hr')) (by decide))
theorem lines_few {h : Hs} {rs : List Rw} (hh : HsOk h) (hl : rs.length ≤ 30) : (allLines h rs).length ≤ 60 := by
  have := hPart_len hh 3
  rw [hPart_all] at this
  unfold allLines
  simp only [List.length_append, List.length_map, List.length_cons, List.length_nil]
  omega
theorem text_ok {h : Hs} {rs : List Rw} (hh : HsOk h) (hr : ∀ r ∈ rs, RwOk h r) (hl : rs.length ≤ 30) : ((allLines h rs).map (·.length)).sum + (allLines h rs).length * ("\n" : Str).length ≤ 16777216 := by
  have q := sum_le (line_len hh hr)
  have q2 := lines_few (rs := rs) hh hl
  rw [show ("\n" : Str).length = 1 by decide +kernel]
  omega
theorem text_len {h : Hs} {rs : List Rw} (hh : HsOk h) (hr : ∀ r ∈ rs, RwOk h r) (hl : rs.length ≤ 30) : (logText h rs).length ≤ 100000 := by
  have q := sum_le (line_len hh hr)
  have q2 := lines_few (rs := rs) hh hl
  have q3 := join_len "\n" (allLines h rs)
  rw [show ("\n" : Str).length = 1 by decide +kernel] at q3
  unfold logText
  omega
abbrev s_format_log : Stmt := topS 55
abbrev N_format_log : List Str := ["log", "row"]
theorem sc_format_log : FnScope N_format_log ["log"] (defScope s_format_log) := ⟨rfl, rfl, rfl, by decide +kernel, rfl, by decide +kernel, by decide +kernel⟩
abbrev preFmt (K : Frag) : Wd → List A → (A → Prop) → Prop := fun _ as κ => ∃ (h : Hs) (rs : List Rw), as = [.p (LogAt K h rs)] ∧ (HsOk h ∧ (∀ r ∈ rs, RwOk h r) ∧ rs.length ≤ 30) ∧ κ (.d (.str (logText h rs)))
theorem ok_fmt (T : Tx K mg) : Ok P w K mg base 6 ("format_log", none) ["log"] (spD K (preFmt K)) := by
  have f_words_of : Ok P w K mg base 5 ("words_of", none) ["value"] (spD K (preW 4)) := ok_words T 4
  have f_house_rows : Ok P w K mg base 3 ("house_rows", none) ["house"] (spD K (preHR K)) := ok_hrows T
  have f_Log_house := ok_L_house (P := P) (w := w) (base := base) T
  have f_Log_rows := ok_L_rows (P := P) (w := w) (base := base) T
  refine okD T.d_format_log sc_format_log (fun _ _ _ _ _ _ us hl => match us, hl with | [_], _ => rfl) (fun _ _ _ ⟨_, _, e, _⟩ => by rw [e]; rfl) (fun _ _ _ _ h => h) fun f cdv Ar outer s H E hr W as κ ⟨h, rs, e, ⟨hh, hrs, hl⟩, k⟩ => ?_
  subst e
  refine ⟨_, (pss_one (ps_ret (pe_joinK K pe_str (pe_op op_cat (pe_op op_cat (pe_cf f_house_rows (hr.mono (by decide)) T.g_house_rows (pa_cons (pe_pr f_Log_house T.c_Log (hr.mono (by decide)) (pv 0)) pa_nil)) (pe_lst (pa_cons (pe_gS T.s_LOG) pa_nil))) (pe_lc (own := [("row", 1)]) rfl sc_format_log.nd (pi_tupK K (pe_pr f_Log_rows T.c_Log (hr.mono (by decide)) (pv 0))) (blkOk_by (own := [("row", 1)]) (N := N_format_log) (sc := defScope s_format_log) (by decide +kernel)) (fun _ _ _ _ _ => (pg_name (i := 1) sc_format_log.nd rfl (Or.inl rfl))) (fun _ _ _ _ _ => pts_nil) (fun _ _ _ _ _ => (pe_joinK K pe_str (pe_cf f_words_of (hr.mono (by decide)) T.g_words_of (pa_cons (pv 1) pa_nil))))))))), ?_⟩
  refine sd_ret (ed_join ?_)
  walk_at "eds"
  refine ⟨insL, ?_⟩
  walk_at "eds"
  refine ⟨hh, fun ph hph => ?_⟩
  walk_at "eds"
  refine rd_cat (by have := hPart_len hh 3; rw [hPart_all] at this; rw [List.length_map]; show _ + 1 ≤ 100000; omega) fun p2 hp2 => ?_
  refine ed_lcT (by decide) ?_
  walk_at "eds"
  refine ⟨insL, ?_⟩
  walk_at "eds"
  refine ⟨by rw [List.length_map]; omega, fun i acc => acc = (rs.take i).map fun r => PyData.str (rLine r), rfl, fun i d acc hd ea => ?_, fun q acc hq hla ea => ?_⟩
  · obtain ⟨r, hp, rfl⟩ := map_at' hd
    have hr := hrs r (List.mem_of_getElem? hp)
    walk_at "eds"
    refine ed_join ?_
    walk_at "eds"
    refine ⟨⟨Sm.wd (sm_rw hh hr), Nat.le_trans (few_rw hr) (by decide)⟩, fun q2 hq2 => ?_⟩
    refine ⟨q2, wordsD r.e, rfl, jw_ok (Sm.words (sm_rw hh hr)) (Nat.le_trans (few_rw hr) (by decide)), ⟨_, rfl, ?_⟩⟩
    rw [ea]
    exact strs_more (f := rLine) hp
  · rw [List.length_map] at ea hla
    have hpl := hPart_len hh 3
    rw [hPart_all] at hpl
    refine rd_cat (by rw [List.length_append, List.length_map]; show _ + 1 + _ ≤ 100000; omega) fun p3 hp3 => ?_
    refine ⟨p3, allLines h rs, ?_, text_ok hh hrs hl, k, fun _ _ z => by cases z⟩
    rw [ea, show (hLines h).map PyData.str ++ [PyData.str "log"] = (hLines h ++ [("log" : Str)]).map PyData.str by rw [List.map_append]; rfl, strs_all rfl]
    rfl
end
end Q47
set_option maxHeartbeats 4000000
/-! ### the law's own words and lines -/
namespace Q47
open PySem L2
open PySem.W (Frag)
open PyProof.Rows (envOfC)
local macro_rules | `(tactic| walk_at "kit") => `(tactic| first | with_reducible exact kit_int_int | with_reducible exact kit_int_bool | with_reducible exact kit_int_str | with_reducible exact kit_int_tuple | with_reducible exact kit_int_list | with_reducible exact kit_int_dict | with_reducible exact kit_str_int | with_reducible exact kit_str_bool | with_reducible exact kit_str_str | with_reducible exact kit_str_tuple | with_reducible exact kit_str_list | with_reducible exact kit_str_dict | with_reducible exact kit_tuple_int | with_reducible exact kit_tuple_bool | with_reducible exact kit_tuple_str | with_reducible exact kit_tuple_tuple | with_reducible exact kit_tuple_list | with_reducible exact kit_tuple_dict | with_reducible exact kit_list_int | with_reducible exact kit_list_bool | with_reducible exact kit_list_str | with_reducible exact kit_list_tuple | with_reducible exact kit_list_list | with_reducible exact kit_list_dict)
local macro_rules | `(tactic| walk_at "shp") => `(tactic| first
  | with_reducible exact (shp_int _).ok
  | with_reducible exact (shp_pl _).ok
  | with_reducible exact (shp_bool _).ok
  | with_reducible exact (shp_it _).ok
  | with_reducible exact (shp_str (by decide +kernel)).ok
  | with_reducible exact (shp_2 (shp_str (by decide +kernel)) (shp_int _)).ok
  | with_reducible exact (shp_st _).ok
  | with_reducible exact (shp_str (kd_ok _)).ok
  | with_reducible exact (shp_str (pl_ok _)).ok
  | with_reducible exact (shp_pls _).ok
  | with_reducible exact (shp_hs _).ok
  | with_reducible exact shp_nil.ok
  | with_reducible exact (shp_dd _).ok
  | with_reducible exact (shp_sg _).ok
  | with_reducible exact (shp_rw _).ok
  | assumption)
local macro_rules | `(tactic| walk_at "ed") => `(tactic| first
  | ((with_reducible refine' ed_var ?hv ?_); (case hv => exact rfl))
  | with_reducible refine ed_int ?_
  | with_reducible refine ed_str ?_
  | with_reducible refine ed_bl ?_
  | with_reducible refine ed_non ?_
  | with_reducible refine edd_cons ?_
  | with_reducible refine edd_nil ?_
  | with_reducible refine eda_cons ?_
  | with_reducible refine eda_nil ?_
  | with_reducible refine ⟨_, rfl, _, fldH1 ‹_›, ?_⟩
  | with_reducible refine ⟨_, rfl, _, fldH2 ‹_›, ?_⟩
  | with_reducible refine ⟨_, rfl, _, fldH3 ‹_›, ?_⟩
  | with_reducible refine ⟨_, rfl, _, fldH4 ‹_›, ?_⟩
  | with_reducible refine ⟨_, rfl, insH, ?_⟩
  | with_reducible refine ⟨_, rfl, ?_⟩
  | with_reducible refine ⟨_, _, rfl, ?_⟩
  | with_reducible refine ⟨_, _, _, rfl, ?_⟩
  | with_reducible refine ed_tupD ?_
  | with_reducible refine ed_lstD ?_
  | with_reducible refine ed_op ?_
  | with_reducible refine ed_chain ?_
  | with_reducible refine ed_fld ?_
  | with_reducible refine ed_prop ?_
  | with_reducible refine ed_meth ?_
  | with_reducible refine gd_tup rfl ?_
  | with_reducible refine gds_cons ?_
  | with_reducible refine gds_nil ?_
  | with_reducible refine ed_slHi ?_
  | with_reducible refine ed_slLo ?_
  | ((with_reducible refine' cd_isiI ?hb ?_); (case hb => walk_at "kit"))
  | ((with_reducible refine' cd_isiS ?hb ?_); (case hb => walk_at "kit"))
  | ((with_reducible refine' cd_isiT ?hb ?_); (case hb => walk_at "kit"))
  | ((with_reducible refine' cd_isiL ?hb ?_); (case hb => walk_at "kit"))
  | with_reducible refine ed_ty ?_
  | with_reducible refine fun (_ : NewA _ _ _) => ?_
  | with_reducible refine ed_lstRg ?_
  | with_reducible refine ed_cb ?_
  | with_reducible refine ed_call ?_
  | with_reducible refine ed_and ?_
  | with_reducible refine ed_or ?_
  | with_reducible refine ed_not ?_
  | with_reducible refine ed_if ?_
  | with_reducible refine td_test ?_
  | with_reducible refine td_B ?_
  | with_reducible refine td_and ?_
  | with_reducible refine td_or ?_
  | with_reducible refine td_not ?_
  | with_reducible refine td_yes ?_
  | with_reducible refine rd_I0 ?_
  | with_reducible refine rd_eqT ?_
  | with_reducible refine rd_neT ?_
  | with_reducible refine rd_B0 ?_
  | ((with_reducible refine rd_eq ?hx ?hy ?_); (case hx => walk_at "shp"); (case hy => walk_at "shp"))
  | ((with_reducible refine rd_ne ?hx ?hy ?_); (case hx => walk_at "shp"); (case hy => walk_at "shp"))
  | ((with_reducible refine' rd_ixTi ?h0 ?hi ?_); (case h0 => decide); (case hi => exact rfl))
  | ((with_reducible refine len_ok ?hl ?_); (case hl => exact rfl))
  | ((with_reducible refine ed_dsel3 ?a12 ?a13 ?a23 ?_); (case a12 => decide +kernel); (case a13 => decide +kernel); (case a23 => decide +kernel))
  | with_reducible refine fun _ (_ : New _ _ _) => ?_
  | with_reducible refine cd_lenK (.inr ⟨_, rfl, ?_⟩)
  | with_reducible refine cd_lenK (.inl ⟨_, _, rfl, ?_⟩)
  | with_reducible refine cd_tupleK ?_
  | ((with_reducible refine if_t ?hc ?_); (case hc => first | rfl | decide +kernel))
  | ((with_reducible refine if_f ?hc ?_); (case hc => first | rfl | decide +kernel))
  | with_reducible refine sd_par ?_
  | with_reducible refine sd_par3 ?_
  | with_reducible refine sd_next ?_
  | with_reducible refine sd_ret ?_
  | with_reducible refine sd_drop ?_
  | with_reducible refine sd_seq ?_
  | with_reducible refine sd_asg ?_
  | with_reducible refine gd_name ?_
  | with_reducible refine sd_if ?_)
local macro_rules | `(tactic| walk_at "out") => `(tactic| exact ⟨by assumption, fun _ _ z => by cases z⟩)
local macro_rules | `(tactic| walk_at "eds") => `(tactic| repeat walk_at "ed")

theorem cd_strS {K : Frag} {W : Wd} {Γ : Gm} {κ : A → Prop} {x : Str} (k : κ (.d (.str x))) : CD K W Γ (fun xs H Q => ∃ a, xs = [.str a] ∧ Q (.str a) H) [.d (.str x)] κ := fun σ vs H Q e hv s q => by
  cases hv with
  | cons hv hn =>
    cases hn
    cases hv
    exact ⟨x, rfl, q _ H (.d _) Ro.refl s (Rt.str _) k⟩
theorem wordsA_app : ∀ a b : List PyData, wordsA (a ++ b) = wordsA a ++ wordsA b
  | [], _ => rfl
  | x :: a, b => by
    rw [List.cons_append, wordsA, wordsA, wordsA_app a b, List.append_assoc]
theorem wordsA_more {l : List PyData} {i : Nat} {d : PyData} (h : l[i]? = some d) : wordsA (l.take i) ++ wordsD d = wordsA (l.take (i + 1)) := by
  rw [List.take_succ, h, wordsA_app]
  congr 1
  show _ = wordsA [d]
  rw [wordsA, wordsA, List.append_nil]
theorem wordsA_take (l : List PyData) (i : Nat) : (wordsA (l.take i)).length ≤ (wordsA l).length := by
  have e : wordsA l = wordsA (l.take i) ++ wordsA (l.drop i) := by rw [← wordsA_app, List.take_append_drop]
  rw [e, List.length_append]
  omega
section
variable {P : Program} {w : World} {K : Frag} {mg : Str → Option Value} {base : Heap}
theorem hd_eq (h : Hs) : ("hands " : Str) ++ Str.ofString (toString (h.hands : Int)) = hdLine h := by
  unfold hdLine
  rw [TL.join_eq]
  show _ = ("hands" : Str) ++ " " ++ Str.ofString (toString (h.hands : Int))
  rw [show ("hands" : Str) ++ " " = "hands " by decide +kernel]
abbrev s__law_words : Stmt := topS 79
abbrev N__law_words : List Str := ["_law_thing", "_law_found", "_law_one"]
theorem sc__law_words : FnScope N__law_words ["_law_thing"] (defScope s__law_words) := ⟨rfl, rfl, rfl, by decide +kernel, rfl, by decide +kernel, by decide +kernel⟩
theorem ok_lw0 (T : Tx K mg) : Ok P w K mg base 1 ("_law_words", none) ["_law_thing"] (spD K (preW 0)) := by
  refine okD T.d__law_words sc__law_words (fun _ _ _ _ _ _ us hl => match us, hl with | [_], _ => rfl) (fun _ _ _ ⟨_, e, _⟩ => by rw [e]; rfl) (fun _ _ _ _ h => h) fun f cdv Ar outer s H E hr W as κ ⟨d, e, ⟨hd, hl⟩, k⟩ => ?_
  subst e
  cases d with
  | str x =>
    refine ⟨_, (pss_cons (ps_if (pt_val (pe_callB (call_isiK' K) (by rfl) T.b_isinstance (by decide +kernel) (pa_cons (pv 0) (pa_cons (pe_ty "tuple" T.b_tuple) pa_nil)))) pss_never pss_nil)
      (pss_one (ps_ret (pe_lst (pa_cons (pe_callTy SkE.call_str_str (by rfl) T.b_str (by decide +kernel) (pa_cons (pv 0) pa_nil)) pa_nil))))), ?_⟩
    walk_at "eds"
    refine cd_strS ?_
    walk_at "eds"
    rename_i p hp
    exact ⟨k p, fun _ _ z => by cases z; exact hp.o⟩
  | int i =>
    refine ⟨_, (pss_cons (ps_if (pt_val (pe_callB (call_isiK' K) (by rfl) T.b_isinstance (by decide +kernel) (pa_cons (pv 0) (pa_cons (pe_ty "tuple" T.b_tuple) pa_nil)))) pss_never pss_nil)
      (pss_one (ps_ret (pe_lst (pa_cons (pe_callTy call_str_int (by rfl) T.b_str (by decide +kernel) (pa_cons (pv 0) pa_nil)) pa_nil))))), ?_⟩
    walk_at "eds"
    refine cd_str (by unfold WdOk at hd; exact hd) ?_
    walk_at "eds"
    rename_i p hp
    exact ⟨k p, fun _ _ z => by cases z; exact hp.o⟩
  | tuple ds => exact hd.elim
  | none => exact hd.elim
  | bool b => exact hd.elim
  | list ds => exact hd.elim
  | dict ds => exact hd.elim
theorem ok_lw (T : Tx K mg) : ∀ n, Ok P w K mg base (n + 1) ("_law_words", none) ["_law_thing"] (spD K (preW n))
  | 0 => ok_lw0 T
  | n + 1 => by
    have f__law_words : Ok P w K mg base (n + 1) ("_law_words", none) ["_law_thing"] (spD K (preW n)) := ok_lw T n
    refine okD T.d__law_words sc__law_words (fun _ _ _ _ _ _ us hl => match us, hl with | [_], _ => rfl) (fun _ _ _ ⟨_, e, _⟩ => by rw [e]; rfl) (fun _ _ _ _ h => h) fun f cdv Ar outer s H E hr W as κ ⟨d, e, ⟨hd, hl⟩, k⟩ => ?_
    subst e
    cases d with
    | str x =>
      refine ⟨_, (pss_cons (ps_if (pt_val (pe_callB (call_isiK' K) (by rfl) T.b_isinstance (by decide +kernel) (pa_cons (pv 0) (pa_cons (pe_ty "tuple" T.b_tuple) pa_nil)))) pss_never pss_nil)
      (pss_one (ps_ret (pe_lst (pa_cons (pe_callTy SkE.call_str_str (by rfl) T.b_str (by decide +kernel) (pa_cons (pv 0) pa_nil)) pa_nil))))), ?_⟩
      walk_at "eds"
      refine cd_strS ?_
      walk_at "eds"
      rename_i p hp
      exact ⟨k p, fun _ _ z => by cases z; exact hp.o⟩
    | int i =>
      refine ⟨_, (pss_cons (ps_if (pt_val (pe_callB (call_isiK' K) (by rfl) T.b_isinstance (by decide +kernel) (pa_cons (pv 0) (pa_cons (pe_ty "tuple" T.b_tuple) pa_nil)))) pss_never pss_nil)
      (pss_one (ps_ret (pe_lst (pa_cons (pe_callTy call_str_int (by rfl) T.b_str (by decide +kernel) (pa_cons (pv 0) pa_nil)) pa_nil))))), ?_⟩
      walk_at "eds"
      refine cd_str (by unfold WdOk at hd; exact hd) ?_
      walk_at "eds"
      rename_i p hp
      exact ⟨k p, fun _ _ z => by cases z; exact hp.o⟩
    | tuple ds =>
      refine ⟨_, (pss_cons (ps_if (pt_val (pe_callB (call_isiK' K) (by rfl) T.b_isinstance (by decide +kernel) (pa_cons (pv 0) (pa_cons (pe_ty "tuple" T.b_tuple) pa_nil)))) (pss_cons (ps_set (i := 1) sc__law_words.nd rfl (Or.inl rfl) (pe_lst pa_nil))
      (pss_cons (ps_for PassesOwn.never rfl (pi_tupK K (pv 0)) (pg_name (i := 2) sc__law_words.nd rfl (Or.inl rfl)) (pss_one (ps_set (i := 1) sc__law_words.nd rfl (Or.inl rfl) (pe_op op_cat (pv 1) (pe_cf f__law_words hr T.g__law_words (pa_cons (pv 2) pa_nil))))))
      (pss_one (ps_ret (pv 1))))) pss_nil)
      (pss_one (ps_ret (pe_lst (pa_cons (pe_callTy call_str_int (by rfl) T.b_str (by decide +kernel) (pa_cons (pv 0) pa_nil)) pa_nil))))), ?_⟩
      unfold WdOk at hd
      unfold wordsD at hl k
      walk_at "eds"
      rename_i p0 hp0
      refine sd_forT (ds := ds) (fun i Γ' => ∃ p x, New W (startG N__law_words [.d (.tuple ds)]) p ∧ Γ' = [some (.d (.tuple ds)), some (.o p ((wordsA (ds.take i)).map PyData.str)), x]) (ed_var rfl rfl) ⟨p0, none, hp0, rfl⟩ (fun i d Γ' hi ⟨p, x, hp, e⟩ => ?_) (fun Γ' ⟨p, x, hp, e⟩ => ?_)
      · subst e
        walk_at "eds"
        have hm := List.mem_of_getElem? hi
        refine ⟨⟨wdAll_mem hd.2 hm, Nat.le_trans (words_le hm) hl⟩, fun p2 hp2 => ?_⟩
        have hsz : ((wordsA (ds.take i)).map PyData.str).length + ((wordsD d).map PyData.str).length ≤ 100000 := by
          have := wordsA_take ds i
          have := words_le hm
          rw [List.length_map, List.length_map]
          omega
        refine rd_cat hsz fun p3 hp3 => ?_
        refine gd_name ?_
        refine ⟨p3, some (.d d), ⟨hp3.m, hp3.o, fun j q xs hj => ?_⟩, ?_⟩
        · match j, hj with
          | 0, hj => cases hj
          | 1, hj => cases hj
          | 2, hj => cases hj
          | n + 3, hj => simp [startG] at hj
        · rw [← List.map_append, wordsA_more hi]
          rfl
      · subst e
        rw [List.take_length]
        walk_at "eds"
        exact ⟨k p, fun _ _ z => by cases z; exact hp.o⟩
    | none => exact hd.elim
    | bool b => exact hd.elim
    | list ds => exact hd.elim
    | dict ds => exact hd.elim
abbrev s__law_house : Stmt := topS 72
abbrev N__law_house : List Str := ["_law_drawn_here"]
theorem sc__law_house : FnScope N__law_house ["_law_drawn_here"] (defScope s__law_house) := ⟨rfl, rfl, rfl, by decide +kernel, rfl, by decide +kernel, by decide +kernel⟩
abbrev preLH (K : Frag) : Wd → List A → (A → Prop) → Prop := fun _ as κ => ∃ h : Hs, as = [.d h.e] ∧ HsOk h ∧ κ (.p (HouseAt K h))
theorem ok_lh (T : Tx K mg) : Ok P w K mg base 6 ("_law_house", none) ["_law_drawn_here"] (spD K (preLH K)) := by
  have f_House___init__ : Ok P w K mg base 4 ("House", some "__init__") ["self", "hands", "boxes", "things", "seals"] (spHouse K) := ok_House T
  refine okD T.d__law_house sc__law_house (fun _ _ _ _ _ _ us hl => match us, hl with | [_], _ => rfl) (fun _ _ _ ⟨_, e, _⟩ => by rw [e]; rfl) (fun _ _ _ _ h => h) fun f cdv Ar outer s H E hr W as κ ⟨h, e, hh, k⟩ => ?_
  subst e
  refine ⟨_, (pss_one (ps_ret (pe_mkO T.m_House f_House___init__ (hr.mono (by decide)) T.g_House (pa_cons (pe_ix (ix_tupK K) (pv 0) pe_int (fun _ _ => rfl)) (pa_cons (pe_ix (ix_tupK K) (pv 0) pe_int (fun _ _ => rfl)) (pa_cons (pe_ix (ix_tupK K) (pv 0) pe_int (fun _ _ => rfl)) (pa_cons (pe_ix (ix_tupK K) (pv 0) pe_int (fun _ _ => rfl)) pa_nil))))))), ?_⟩
  refine sd_ret (ed_house ?_)
  walk_at "eds"
  exact ⟨hh, k, fun _ _ z => by cases z⟩
abbrev s__law_lines : Stmt := topS 80
abbrev N__law_lines : List Str := ["_law_drawn_here", "_law_rows_here", "_law_found", "_law_word", "_law_places", "_law_place_here", "_law_row"]
theorem sc__law_lines : FnScope N__law_lines ["_law_drawn_here", "_law_rows_here"] (defScope s__law_lines) := ⟨rfl, rfl, rfl, by decide +kernel, rfl, by decide +kernel, by decide +kernel⟩
abbrev preLL : Wd → List A → (A → Prop) → Prop := fun _ as κ => ∃ (h : Hs) (rs : List Rw) (pr : Addr), as = [.d h.e, .o pr (rs.map Rw.e)] ∧ (HsOk h ∧ (∀ r ∈ rs, RwOk h r) ∧ rs.length ≤ 30) ∧ ∀ p, κ (.o p ((allLines h rs).map PyData.str))
theorem ok_ll (T : Tx K mg) : Ok P w K mg base 6 ("_law_lines", none) ["_law_drawn_here", "_law_rows_here"] (spD K preLL) := by
  have f__law_words : Ok P w K mg base 5 ("_law_words", none) ["_law_thing"] (spD K (preW 4)) := ok_lw T 4
  refine okD T.d__law_lines sc__law_lines (fun _ _ _ _ _ _ us hl => match us, hl with | [_, _], _ => rfl) (fun _ _ _ ⟨_, _, _, e, _⟩ => by rw [e]; rfl) (fun _ _ _ _ h => h) fun f cdv Ar outer s H E hr W as κ ⟨h, rs, pr, e, ⟨hh, hrs, hl⟩, k⟩ => ?_
  subst e
  refine ⟨_, (pss_cons (ps_set (i := 2) sc__law_lines.nd rfl (Or.inl rfl) (pe_lst (pa_cons (pe_op op_add_str pe_str (pe_callTy call_str_int (by rfl) T.b_str (by decide +kernel) (pa_cons (pe_ix (ix_tupK K) (pv 0) pe_int (fun _ _ => rfl)) pa_nil))) pa_nil)))
      (pss_cons (ps_for PassesOwn.never rfl (pi_tupK K (pe_tup (pa_cons (pe_tup (pa_cons pe_str (pa_cons (pe_ix (ix_tupK K) (pv 0) pe_int (fun _ _ => rfl)) pa_nil))) (pa_cons (pe_tup (pa_cons pe_str (pa_cons (pe_ix (ix_tupK K) (pv 0) pe_int (fun _ _ => rfl)) pa_nil))) (pa_cons (pe_tup (pa_cons pe_str (pa_cons (pe_ix (ix_tupK K) (pv 0) pe_int (fun _ _ => rfl)) pa_nil))) pa_nil))))) (pg_tupK (n := 2) K rfl (pgs_cons (pg_name (i := 3) sc__law_lines.nd rfl (Or.inr rfl)) (pgs_cons (pg_name (i := 4) sc__law_lines.nd rfl (Or.inl rfl)) pgs_nil))) (pss_one (ps_set (i := 2) sc__law_lines.nd rfl (Or.inl rfl) (pe_op op_cat (pv 2) (pe_lc (own := [("_law_place_here", 5)]) rfl sc__law_lines.nd (pi_tupK K (pv 4)) (blkOk_by (own := [("_law_place_here", 5)]) (N := N__law_lines) (sc := defScope s__law_lines) (by decide +kernel)) (fun _ _ _ _ _ => (pg_name (i := 5) sc__law_lines.nd rfl (Or.inl rfl))) (fun _ _ _ _ _ => pts_nil) (fun _ _ _ _ _ => (pe_joinK K pe_str (pe_op op_cat (pe_lst (pa_cons (pv 3) pa_nil)) (pe_cf f__law_words (hr.mono (by decide)) T.g__law_words (pa_cons (pv 5) pa_nil))))))))))
      (pss_one (ps_ret (pe_op op_cat (pe_op op_cat (pv 2) (pe_lst (pa_cons pe_str pa_nil))) (pe_lc (own := [("_law_row", 6)]) rfl sc__law_lines.nd (pi_listK K (pv 1)) (blkOk_by (own := [("_law_row", 6)]) (N := N__law_lines) (sc := defScope s__law_lines) (by decide +kernel)) (fun _ _ _ _ _ => (pg_name (i := 6) sc__law_lines.nd rfl (Or.inl rfl))) (fun _ _ _ _ _ => pts_nil) (fun _ _ _ _ _ => (pe_joinK K pe_str (pe_cf f__law_words (hr.mono (by decide)) T.g__law_words (pa_cons (pv 6) pa_nil)))))))))), ?_⟩
  have h3 := hh.h3
  have b2 := hh.b2
  have t4 := hh.t4
  have s3 := hh.s3
  obtain ⟨pb, pt, ps⟩ := pls_small hh
  walk_at "eds"
  refine cd_str (log2_small _ (by omega)) ?_
  refine rd_str (Nat.le_trans (show _ ≤ 20 by rw [show ("hands " : Str).length = 6 by decide +kernel]; have := okW_len (okW_num h.hands (by omega)); omega) (by decide)) ?_
  rw [show ("hands " : Str) ++ Str.ofString (toString (h.hands : Int)) = hdLine h from hd_eq h]
  walk_at "eds"
  rename_i p0 hp0
  refine sd_forT (ds := [.tuple [.str "box", plsE h.boxes], .tuple [.str "thing", plsE h.things], .tuple [.str "seal", plsE h.seals]]) (fun i Γ' => ∃ pf x y, Γ' = [some (.d h.e), some (.o pr (rs.map Rw.e)), some (.o pf ((hPart h i).map PyData.str)), x, y, none, none]) ?_ ⟨p0, none, none, rfl⟩ (fun i d Γ' hd ⟨pf, x, y, e⟩ => ?_) (fun Γ' ⟨pf, x, y, e⟩ => ?_)
  · walk_at "eds"
    rfl
  · match i, hd with
    | 0, hd =>
      cases hd
      subst e
      refine gd_tup rfl (gds_cons (gd_name (gds_cons (gd_name (gds_nil ?_)))))
      walk_at "eds"
      refine ed_lcT (by decide) ?_
      walk_at "eds"
      refine ⟨by rw [List.length_map]; omega, fun i acc => acc = (h.boxes.take i).map fun p => PyData.str (plLine "box" p), rfl, fun i d acc hd ea => ?_, fun q acc hq hl ea => ?_⟩
      · obtain ⟨p, hp, rfl⟩ := map_at' hd
        have hp10 := pb p (List.mem_of_getElem? hp)
        walk_at "eds"
        refine ed_join ?_
        walk_at "eds"
        refine ⟨⟨Sm.wd (sm_pl hp10), by rw [pl_few]; decide⟩, fun p2 hp2 => ?_⟩
        refine rd_cat (by rw [List.length_map, pl_few]; decide) fun q hq => ?_
        refine ⟨q, "box" :: wordsD p.e, rfl, jw_ok (pl_line (by decide +kernel) hp10) (by rw [List.length_cons, pl_few]; decide), ⟨_, rfl, ?_⟩⟩
        rw [ea]
        exact strs_more (f := plLine "box") hp
      · rw [List.length_map] at ea hl
        have hpl := hPart_len hh 0
        refine rd_cat (by rw [List.length_map]; omega) fun p3 hp3 => ?_
        refine gd_name ?_
        refine ⟨p3, some (.d (.str "box")), some (.d (plsE h.boxes)), ?_⟩
        rw [ea, strs_all rfl]
        rfl
    | 1, hd =>
      cases hd
      subst e
      refine gd_tup rfl (gds_cons (gd_name (gds_cons (gd_name (gds_nil ?_)))))
      walk_at "eds"
      refine ed_lcT (by decide) ?_
      walk_at "eds"
      refine ⟨by rw [List.length_map]; omega, fun i acc => acc = (h.things.take i).map fun p => PyData.str (plLine "thing" p), rfl, fun i d acc hd ea => ?_, fun q acc hq hl ea => ?_⟩
      · obtain ⟨p, hp, rfl⟩ := map_at' hd
        have hp10 := pt p (List.mem_of_getElem? hp)
        walk_at "eds"
        refine ed_join ?_
        walk_at "eds"
        refine ⟨⟨Sm.wd (sm_pl hp10), by rw [pl_few]; decide⟩, fun p2 hp2 => ?_⟩
        refine rd_cat (by rw [List.length_map, pl_few]; decide) fun q hq => ?_
        refine ⟨q, "thing" :: wordsD p.e, rfl, jw_ok (pl_line (by decide +kernel) hp10) (by rw [List.length_cons, pl_few]; decide), ⟨_, rfl, ?_⟩⟩
        rw [ea]
        exact strs_more (f := plLine "thing") hp
      · rw [List.length_map] at ea hl
        have hpl := hPart_len hh 1
        refine rd_cat (by rw [List.length_map]; omega) fun p3 hp3 => ?_
        refine gd_name ?_
        refine ⟨p3, some (.d (.str "thing")), some (.d (plsE h.things)), ?_⟩
        rw [ea, strs_all rfl]
        rfl
    | 2, hd =>
      cases hd
      subst e
      refine gd_tup rfl (gds_cons (gd_name (gds_cons (gd_name (gds_nil ?_)))))
      walk_at "eds"
      refine ed_lcT (by decide) ?_
      walk_at "eds"
      refine ⟨by rw [List.length_map]; omega, fun i acc => acc = (h.seals.take i).map fun p => PyData.str (plLine "seal" p), rfl, fun i d acc hd ea => ?_, fun q acc hq hl ea => ?_⟩
      · obtain ⟨p, hp, rfl⟩ := map_at' hd
        have hp10 := ps p (List.mem_of_getElem? hp)
        walk_at "eds"
        refine ed_join ?_
        walk_at "eds"
        refine ⟨⟨Sm.wd (sm_pl hp10), by rw [pl_few]; decide⟩, fun p2 hp2 => ?_⟩
        refine rd_cat (by rw [List.length_map, pl_few]; decide) fun q hq => ?_
        refine ⟨q, "seal" :: wordsD p.e, rfl, jw_ok (pl_line (by decide +kernel) hp10) (by rw [List.length_cons, pl_few]; decide), ⟨_, rfl, ?_⟩⟩
        rw [ea]
        exact strs_more (f := plLine "seal") hp
      · rw [List.length_map] at ea hl
        have hpl := hPart_len hh 2
        refine rd_cat (by rw [List.length_map]; omega) fun p3 hp3 => ?_
        refine gd_name ?_
        refine ⟨p3, some (.d (.str "seal")), some (.d (plsE h.seals)), ?_⟩
        rw [ea, strs_all rfl]
        rfl
    | n + 3, hd => simp at hd
  · subst e
    rw [show ([PyData.tuple [.str "box", plsE h.boxes], .tuple [.str "thing", plsE h.things], .tuple [.str "seal", plsE h.seals]] : List PyData).length = 3 from rfl, hPart_all]
    have hpl := hPart_len hh 3
    rw [hPart_all] at hpl
    walk_at "eds"
    refine rd_cat (by rw [List.length_map]; show _ + 1 ≤ 100000; omega) fun p2 hp2 => ?_
    refine ed_lcL (by decide) ?_
    walk_at "eds"
    refine ⟨by rw [List.length_map]; omega, fun i acc => acc = (rs.take i).map fun r => PyData.str (rLine r), rfl, fun i d acc hd ea => ?_, fun q acc hq hla ea => ?_⟩
    · obtain ⟨r, hp, rfl⟩ := map_at' hd
      have hr := hrs r (List.mem_of_getElem? hp)
      walk_at "eds"
      refine ed_join ?_
      walk_at "eds"
      refine ⟨⟨Sm.wd (sm_rw hh hr), Nat.le_trans (few_rw hr) (by decide)⟩, fun q2 hq2 => ?_⟩
      refine ⟨q2, wordsD r.e, rfl, jw_ok (Sm.words (sm_rw hh hr)) (Nat.le_trans (few_rw hr) (by decide)), ⟨_, rfl, ?_⟩⟩
      rw [ea]
      exact strs_more (f := rLine) hp
    · rw [List.length_map] at ea hla
      refine rd_cat (by rw [List.length_append, List.length_map]; show _ + 1 + _ ≤ 100000; omega) fun p3 hp3 => ?_
      rw [ea, show (hLines h).map PyData.str ++ [PyData.str "log"] = (hLines h ++ [("log" : Str)]).map PyData.str by rw [List.map_append]; rfl, strs_all rfl]
      exact ⟨k p3, fun _ _ z => by cases z; exact hp3.o⟩
end
end Q47
set_option maxHeartbeats 4000000
/-! ### alike -/
namespace Q47
open PySem L2
open PySem.W (Frag)
open PyProof.Rows (envOfC)
local macro_rules | `(tactic| walk_at "kit") => `(tactic| first | with_reducible exact kit_int_int | with_reducible exact kit_int_bool | with_reducible exact kit_int_str | with_reducible exact kit_int_tuple | with_reducible exact kit_int_list | with_reducible exact kit_int_dict | with_reducible exact kit_str_int | with_reducible exact kit_str_bool | with_reducible exact kit_str_str | with_reducible exact kit_str_tuple | with_reducible exact kit_str_list | with_reducible exact kit_str_dict | with_reducible exact kit_tuple_int | with_reducible exact kit_tuple_bool | with_reducible exact kit_tuple_str | with_reducible exact kit_tuple_tuple | with_reducible exact kit_tuple_list | with_reducible exact kit_tuple_dict | with_reducible exact kit_list_int | with_reducible exact kit_list_bool | with_reducible exact kit_list_str | with_reducible exact kit_list_tuple | with_reducible exact kit_list_list | with_reducible exact kit_list_dict)
local macro_rules | `(tactic| walk_at "shp") => `(tactic| first
  | with_reducible exact (shp_int _).ok
  | with_reducible exact (shp_pl _).ok
  | with_reducible exact (shp_bool _).ok
  | with_reducible exact (shp_it _).ok
  | with_reducible exact (shp_str (by decide +kernel)).ok
  | with_reducible exact (shp_2 (shp_str (by decide +kernel)) (shp_int _)).ok
  | with_reducible exact (shp_st _).ok
  | with_reducible exact (shp_str (kd_ok _)).ok
  | with_reducible exact (shp_str (pl_ok _)).ok
  | with_reducible exact (shp_pls _).ok
  | with_reducible exact (shp_hs _).ok
  | with_reducible exact shp_nil.ok
  | with_reducible exact (shp_dd _).ok
  | with_reducible exact (shp_sg _).ok
  | with_reducible exact (shp_rw _).ok
  | assumption)
local macro_rules | `(tactic| walk_at "ed") => `(tactic| first
  | ((with_reducible refine' ed_var ?hv ?_); (case hv => exact rfl))
  | with_reducible refine ed_int ?_
  | with_reducible refine ed_str ?_
  | with_reducible refine ed_bl ?_
  | with_reducible refine ed_non ?_
  | with_reducible refine edd_cons ?_
  | with_reducible refine edd_nil ?_
  | with_reducible refine eda_cons ?_
  | with_reducible refine eda_nil ?_
  | with_reducible refine ⟨_, rfl, _, fldH1 ‹_›, ?_⟩
  | with_reducible refine ⟨_, rfl, _, fldH2 ‹_›, ?_⟩
  | with_reducible refine ⟨_, rfl, _, fldH3 ‹_›, ?_⟩
  | with_reducible refine ⟨_, rfl, _, fldH4 ‹_›, ?_⟩
  | with_reducible refine ⟨_, rfl, insH, ?_⟩
  | with_reducible refine ⟨_, rfl, ?_⟩
  | with_reducible refine ⟨_, _, rfl, ?_⟩
  | with_reducible refine ⟨_, _, _, rfl, ?_⟩
  | with_reducible refine ed_tupD ?_
  | with_reducible refine ed_lstD ?_
  | with_reducible refine ed_op ?_
  | with_reducible refine ed_chain ?_
  | with_reducible refine ed_fld ?_
  | with_reducible refine ed_prop ?_
  | with_reducible refine ed_meth ?_
  | with_reducible refine gd_tup rfl ?_
  | with_reducible refine gds_cons ?_
  | with_reducible refine gds_nil ?_
  | with_reducible refine ed_slHi ?_
  | with_reducible refine ed_slLo ?_
  | ((with_reducible refine' cd_isiI ?hb ?_); (case hb => walk_at "kit"))
  | ((with_reducible refine' cd_isiS ?hb ?_); (case hb => walk_at "kit"))
  | ((with_reducible refine' cd_isiT ?hb ?_); (case hb => walk_at "kit"))
  | ((with_reducible refine' cd_isiL ?hb ?_); (case hb => walk_at "kit"))
  | with_reducible refine ed_ty ?_
  | with_reducible refine fun (_ : NewA _ _ _) => ?_
  | with_reducible refine ed_lstRg ?_
  | with_reducible refine ed_isi2 ?_
  | with_reducible refine ed_cb ?_
  | with_reducible refine ed_call ?_
  | with_reducible refine ed_and ?_
  | with_reducible refine ed_or ?_
  | with_reducible refine ed_not ?_
  | with_reducible refine ed_if ?_
  | with_reducible refine td_test ?_
  | with_reducible refine td_B ?_
  | with_reducible refine td_and ?_
  | with_reducible refine td_or ?_
  | with_reducible refine td_not ?_
  | with_reducible refine td_yes ?_
  | with_reducible refine rd_I0 ?_
  | with_reducible refine rd_eqT ?_
  | with_reducible refine rd_neT ?_
  | with_reducible refine rd_B0 ?_
  | ((with_reducible refine rd_eq ?hx ?hy ?_); (case hx => walk_at "shp"); (case hy => walk_at "shp"))
  | ((with_reducible refine rd_ne ?hx ?hy ?_); (case hx => walk_at "shp"); (case hy => walk_at "shp"))
  | ((with_reducible refine' rd_ixTi ?h0 ?hi ?_); (case h0 => decide); (case hi => exact rfl))
  | ((with_reducible refine len_ok ?hl ?_); (case hl => exact rfl))
  | ((with_reducible refine ed_dsel3 ?a12 ?a13 ?a23 ?_); (case a12 => decide +kernel); (case a13 => decide +kernel); (case a23 => decide +kernel))
  | with_reducible refine fun _ (_ : New _ _ _) => ?_
  | with_reducible refine cd_lenK (.inr ⟨_, rfl, ?_⟩)
  | with_reducible refine cd_lenK (.inl ⟨_, _, rfl, ?_⟩)
  | with_reducible refine cd_tupleK ?_
  | ((with_reducible refine if_t ?hc ?_); (case hc => first | rfl | decide +kernel))
  | ((with_reducible refine if_f ?hc ?_); (case hc => first | rfl | decide +kernel))
  | with_reducible refine sd_par ?_
  | with_reducible refine sd_par3 ?_
  | with_reducible refine sd_next ?_
  | with_reducible refine sd_ret ?_
  | with_reducible refine sd_drop ?_
  | with_reducible refine sd_seq ?_
  | with_reducible refine sd_asg ?_
  | with_reducible refine gd_name ?_
  | with_reducible refine sd_if ?_)
local macro_rules | `(tactic| walk_at "out") => `(tactic| exact ⟨by assumption, fun _ _ z => by cases z⟩)
local macro_rules | `(tactic| walk_at "eds") => `(tactic| repeat walk_at "ed")

mutual
def AlD : Nat → PyData → Prop
  | _, .str _ => True
  | _, .int _ => True
  | n + 1, .tuple ds => ds.length ≤ 1000 ∧ AlA n ds
  | _, _ => False
def AlA : Nat → List PyData → Prop
  | _, [] => True
  | n, d :: ds => AlD n d ∧ AlA n ds
end
theorem alA_mem {n : Nat} : ∀ {ds : List PyData} {d : PyData}, AlA n ds → d ∈ ds → AlD n d
  | [], _, _, m => by cases m
  | x :: xs, d, h, m => by
    unfold AlA at h
    rcases List.mem_cons.mp m with rfl | m
    · exact h.1
    · exact alA_mem h.2 m
theorem rd_isNd {K : Frag} {W : Wd} {Γ : Gm} {κ : A → Prop} {d : PyData} (h : d ≠ .none) (k : κ (.d (.bool false))) : RD K W Γ rIsNn (.d d) (.d .none) κ := fun σ v u H Q e hv hu s q => by
  cases hu
  refine ⟨rfl, ?_⟩
  have n : v ≠ .non := fun z => by
    subst z
    cases hv
    exact h rfl
  rw [decide_eq_false n]
  exact q _ H (.d _) Ro.refl s (Rt.bl false) k
theorem rd_eqI {K : Frag} {W : Wd} {Γ : Gm} {κ : A → Prop} {i j : Int} (k : κ (.d (.bool (decide (i = j))))) : RD K W Γ rEq (.d (.int i)) (.d (.int j)) κ := fun σ v u H Q e hv hu s q => by
  cases hv
  cases hu
  refine ⟨rfl, ?_⟩
  rw [show decide (V.int i = V.int j) = decide (i = j) by rw [Bool.eq_iff_iff]; simp]
  exact q _ H (.d _) Ro.refl s (Rt.bl _) k
section
variable {P : Program} {w : World} {K : Frag} {mg : Str → Option Value} {base : Heap}
abbrev s__law_alike : Stmt := topS 65
abbrev N__law_alike : List Str := ["_law_found", "_law_due", "_law_k"]
theorem sc__law_alike : FnScope N__law_alike ["_law_found", "_law_due"] (defScope s__law_alike) := ⟨rfl, rfl, rfl, by decide +kernel, rfl, by decide +kernel, by decide +kernel⟩
def preAl (n : Nat) : Wd → List A → (A → Prop) → Prop := fun _ as κ => ((∃ d, as = [.d d, .d d] ∧ AlD n d) ∨ ∃ (p q : Addr) (ds : List PyData) (m : Nat), as = [.o p ds, .o q ds] ∧ n = m + 1 ∧ ds.length ≤ 1000 ∧ AlA m ds) ∧ κ (.d (.bool true))
theorem al_leaf (T : Tx K mg) {n : Nat} {f : Addr} {cdv : Value} {Ar : Around} {outer : List Env} {s : Shared} {H : Hp} {E : XK} {W : Wd} {κ : A → Prop} {d : PyData} (hr : Room n (Ar.deeper (envOfC "_law_alike" (defScope s__law_alike) s.heap.objs.size f cdv))) (hd : AlD n d) (hn : ∀ ds, d ≠ .tuple ds) (k : κ (.d (.bool true))) :
    ∃ t, PSs (cxOf CX0 P w K mg base N__law_alike "_law_alike" (defScope s__law_alike) f cdv Ar outer s H E).nox (defBody s__law_alike) t ∧ SD K W t (startG N__law_alike [.d d, .d d]) (fun _ => κ (.d .none)) (Out W κ) := by
  refine ⟨_, (pss_cons (ps_if (pt_val (pe_callB (call_isiK' K) (by rfl) T.b_isinstance (by decide +kernel) (pa_cons (pv 1) (pa_cons (pe_ty "dict" T.b_dict) pa_nil)))) pss_never pss_nil)
      (pss_cons (ps_if (pt_val (pe_callB (call_isiTK K) (by rfl) T.b_isinstance (by decide +kernel) (pa_cons (pv 1) (pa_cons (pe_tup (pa_cons (pe_ty "tuple" T.b_tuple) (pa_cons (pe_ty "list" T.b_list) pa_nil))) pa_nil)))) pss_never pss_nil)
      (pss_cons (ps_if (PW.pt (pw_or (pt_cmpR op_isNn (pv 1) pe_non (nomark _)) (pw_or1 (pt_val (pe_callB (call_isiK' K) (by rfl) T.b_isinstance (by decide +kernel) (pa_cons (pv 1) (pa_cons (pe_ty "str" T.b_str) pa_nil))))))) (pss_one (ps_ret (pe_and (pe_cmpR op_eq (pv 0) (pv 1) (nomark _)) (pe_one (pe_cmpR (op_eqDK K hr.units) (pe_callB (call_isiK' K) (by rfl) T.b_isinstance (by decide +kernel) (pa_cons (pv 0) (pa_cons (pe_ty "str" T.b_str) pa_nil))) (pe_callB (call_isiK' K) (by rfl) T.b_isinstance (by decide +kernel) (pa_cons (pv 1) (pa_cons (pe_ty "str" T.b_str) pa_nil))) (nomark _)))))) pss_nil)
      (pss_one (ps_ret (pe_and (pe_callB (call_isiK' K) (by rfl) T.b_isinstance (by decide +kernel) (pa_cons (pv 0) (pa_cons (pe_ty "int" T.b_int) pa_nil))) (pe_and (pe_cmpR (op_eqDK K hr.units) (pe_callB (call_isiK' K) (by rfl) T.b_isinstance (by decide +kernel) (pa_cons (pv 0) (pa_cons (pe_ty "bool" T.b_bool) pa_nil))) (pe_callB (call_isiK' K) (by rfl) T.b_isinstance (by decide +kernel) (pa_cons (pv 1) (pa_cons (pe_ty "bool" T.b_bool) pa_nil))) (nomark _)) (pe_one (pe_cmpR op_eq (pv 0) (pv 1) (nomark _)))))))))), ?_⟩
  have o : Out W κ (.d (.bool true)) := ⟨k, fun _ _ z => by cases z⟩
  cases d with
  | str x =>
    walk_at "eds"
    refine ⟨_, _, _, rfl, kit_str_tuple, kit_str_list, ?_⟩
    walk_at "eds"
    refine rd_isNd (fun z => by cases z) ?_
    walk_at "eds"
    rw [decide_eq_true rfl]
    walk_at "eds"
    exact o
  | int i =>
    walk_at "eds"
    refine ⟨_, _, _, rfl, kit_int_tuple, kit_int_list, ?_⟩
    walk_at "eds"
    refine rd_isNd (fun z => by cases z) ?_
    walk_at "eds"
    refine rd_eqI ?_
    rw [decide_eq_true rfl]
    exact o
  | tuple ds => exact absurd rfl (hn ds)
  | none => cases n <;> exact hd.elim
  | bool b => cases n <;> exact hd.elim
  | list ds => cases n <;> exact hd.elim
  | dict ds => cases n <;> exact hd.elim
theorem ok_alike0 (T : Tx K mg) : Ok P w K mg base 1 ("_law_alike", none) ["_law_found", "_law_due"] (spD K (preAl 0)) := by
  refine okD T.d__law_alike sc__law_alike (fun _ _ _ _ _ _ us hl => match us, hl with | [_, _], _ => rfl) (fun _ _ _ ⟨e, _⟩ => by rcases e with ⟨_, e, _⟩ | ⟨_, _, _, _, e, _⟩ <;> (rw [e]; rfl)) (fun _ _ _ _ h => h) fun f cdv Ar outer s H E hr W as κ ⟨e, k⟩ => ?_
  rcases e with ⟨d, e, hd⟩ | ⟨_, _, _, _, _, z, _⟩
  · subst e
    exact al_leaf T hr hd (fun ds z => by rw [z] at hd; exact hd.elim) k
  · cases z
theorem ok_alike (T : Tx K mg) : ∀ n, Ok P w K mg base (n + 1) ("_law_alike", none) ["_law_found", "_law_due"] (spD K (preAl n))
  | 0 => ok_alike0 T
  | n + 1 => by
    have f__law_alike : Ok P w K mg base (n + 1) ("_law_alike", none) ["_law_found", "_law_due"] (spD K (preAl n)) := ok_alike T n
    refine okD T.d__law_alike sc__law_alike (fun _ _ _ _ _ _ us hl => match us, hl with | [_, _], _ => rfl) (fun _ _ _ ⟨e, _⟩ => by rcases e with ⟨_, e, _⟩ | ⟨_, _, _, _, e, _⟩ <;> (rw [e]; rfl)) (fun _ _ _ _ h => h) fun f cdv Ar outer s H E hr W as κ ⟨e, k⟩ => ?_
    have o : Out W κ (.d (.bool true)) := ⟨k, fun _ _ z => by cases z⟩
    rcases e with ⟨d, e, hd⟩ | ⟨p, q, ds, m, e, hm, hl, hal⟩
    · subst e
      by_cases c : ∃ ds, d = .tuple ds
      · obtain ⟨ds, rfl⟩ := c
        unfold AlD at hd
        obtain ⟨hl, hal⟩ := hd
        refine ⟨_, (pss_cons (ps_if (pt_val (pe_callB (call_isiK' K) (by rfl) T.b_isinstance (by decide +kernel) (pa_cons (pv 1) (pa_cons (pe_ty "dict" T.b_dict) pa_nil)))) pss_never pss_nil)
      (pss_cons (ps_if (pt_val (pe_callB (call_isiTK K) (by rfl) T.b_isinstance (by decide +kernel) (pa_cons (pv 1) (pa_cons (pe_tup (pa_cons (pe_ty "tuple" T.b_tuple) (pa_cons (pe_ty "list" T.b_list) pa_nil))) pa_nil)))) (pss_cons (ps_if (PW.pt (pw_or (pt_not (pt_val (pe_callB (call_isiTK K) (by rfl) T.b_isinstance (by decide +kernel) (pa_cons (pv 0) (pa_cons (pe_tup (pa_cons (pe_ty "tuple" T.b_tuple) (pa_cons (pe_ty "list" T.b_list) pa_nil))) pa_nil))))) (pw_or1 (pt_cmpR (op_neDK K hr.units) (pe_callB (call_isiK' K) (by rfl) T.b_isinstance (by decide +kernel) (pa_cons (pv 0) (pa_cons (pe_ty "list" T.b_list) pa_nil))) (pe_callB (call_isiK' K) (by rfl) T.b_isinstance (by decide +kernel) (pa_cons (pv 1) (pa_cons (pe_ty "list" T.b_list) pa_nil))) (nomark _))))) (pss_one (ps_ret pe_bl)) pss_nil)
      (pss_cons (ps_if (pt_cmpR (op_neDK K hr.units) (pe_callB (call_lenK K) (by rfl) T.b_len (by decide +kernel) (pa_cons (pv 0) pa_nil)) (pe_callB (call_lenK K) (by rfl) T.b_len (by decide +kernel) (pa_cons (pv 1) pa_nil)) (nomark _)) (pss_one (ps_ret pe_bl)) pss_nil)
      (pss_one (ps_ret (pe_cmpR (op_eqDK K hr.units) (pe_lc (own := [("_law_k", 2)]) rfl sc__law_alike.nd (pi_range1 rfl T.b_range (pa_cons (pe_callB (call_lenK K) (by rfl) T.b_len (by decide +kernel) (pa_cons (pv 1) pa_nil)) pa_nil)) (blkOk_by (own := [("_law_k", 2)]) (N := N__law_alike) (sc := defScope s__law_alike) (by decide +kernel)) (fun _ _ _ _ _ => (pg_name (i := 2) sc__law_alike.nd rfl (Or.inl rfl))) (fun _ _ _ _ _ => pts_one (pt_not (pt_val (pe_cf f__law_alike hr T.g__law_alike (pa_cons (pe_ix (ix_tupK K) (pv 0) (pv 2) (fun _ _ => rfl)) (pa_cons (pe_ix (ix_tupK K) (pv 1) (pv 2) (fun _ _ => rfl)) pa_nil)))))) (fun _ _ _ _ _ => (pv 2))) (pe_lst pa_nil) (nomark _)))))) pss_nil)
      (pss_cons (ps_if (PW.pt (pw_or (pt_cmpR op_isNn (pv 1) pe_non (nomark _)) (pw_or1 (pt_val (pe_callB (call_isiK' K) (by rfl) T.b_isinstance (by decide +kernel) (pa_cons (pv 1) (pa_cons (pe_ty "str" T.b_str) pa_nil))))))) (pss_one (ps_ret (pe_and (pe_cmpR (op_eqDK K hr.units) (pv 0) (pv 1) (nomark _)) (pe_one (pe_cmpR (op_eqDK K hr.units) (pe_callB (call_isiK' K) (by rfl) T.b_isinstance (by decide +kernel) (pa_cons (pv 0) (pa_cons (pe_ty "str" T.b_str) pa_nil))) (pe_callB (call_isiK' K) (by rfl) T.b_isinstance (by decide +kernel) (pa_cons (pv 1) (pa_cons (pe_ty "str" T.b_str) pa_nil))) (nomark _)))))) pss_nil)
      (pss_one (ps_ret (pe_and (pe_callB (call_isiK' K) (by rfl) T.b_isinstance (by decide +kernel) (pa_cons (pv 0) (pa_cons (pe_ty "int" T.b_int) pa_nil))) (pe_and (pe_cmpR (op_eqDK K hr.units) (pe_callB (call_isiK' K) (by rfl) T.b_isinstance (by decide +kernel) (pa_cons (pv 0) (pa_cons (pe_ty "bool" T.b_bool) pa_nil))) (pe_callB (call_isiK' K) (by rfl) T.b_isinstance (by decide +kernel) (pa_cons (pv 1) (pa_cons (pe_ty "bool" T.b_bool) pa_nil))) (nomark _)) (pe_one (pe_cmpR (op_eqDK K hr.units) (pv 0) (pv 1) (nomark _)))))))))), ?_⟩
        walk_at "eds"
        refine ⟨_, _, _, rfl, kit_tuple_tuple, kit_tuple_list, ?_⟩
        walk_at "eds"
        refine ⟨_, _, _, rfl, kit_tuple_tuple, kit_tuple_list, ?_⟩
        walk_at "eds"
        rw [eqv_nat, decide_eq_true rfl]
        walk_at "eds"
        refine ed_lcR (by decide) ?_
        walk_at "eds"
        refine ⟨by omega, fun _ acc => acc = [], rfl, fun i acc hi ea => ?_, fun p acc hp _ ea => ?_⟩
        · walk_at "eds"
          refine rd_ixT (List.getElem?_eq_getElem hi) ?_
          walk_at "eds"
          refine rd_ixT (List.getElem?_eq_getElem hi) ?_
          walk_at "eds"
          refine ⟨.inl ⟨_, rfl, alA_mem hal (List.getElem_mem hi)⟩, fun _ => ?_⟩
          walk_at "eds"
          exact ea
        · subst ea
          walk_at "eds"
          refine rd_eqL (x := []) (y := []) (by decide +kernel) (by decide +kernel) ?_
          rw [show PyData.eqv (.list []) (.list []) = true by simp [PyData.eqv, PyData.eqvAll]]
          exact o
      · exact al_leaf T hr hd (fun ds z => c ⟨ds, z⟩) k
    · subst e
      cases hm
      refine ⟨_, (pss_cons (ps_if (pt_val (pe_callB (call_isiK' K) (by rfl) T.b_isinstance (by decide +kernel) (pa_cons (pv 1) (pa_cons (pe_ty "dict" T.b_dict) pa_nil)))) pss_never pss_nil)
      (pss_cons (ps_if (pt_val (pe_callB (call_isiTK K) (by rfl) T.b_isinstance (by decide +kernel) (pa_cons (pv 1) (pa_cons (pe_tup (pa_cons (pe_ty "tuple" T.b_tuple) (pa_cons (pe_ty "list" T.b_list) pa_nil))) pa_nil)))) (pss_cons (ps_if (PW.pt (pw_or (pt_not (pt_val (pe_callB (call_isiTK K) (by rfl) T.b_isinstance (by decide +kernel) (pa_cons (pv 0) (pa_cons (pe_tup (pa_cons (pe_ty "tuple" T.b_tuple) (pa_cons (pe_ty "list" T.b_list) pa_nil))) pa_nil))))) (pw_or1 (pt_cmpR (op_neDK K hr.units) (pe_callB (call_isiK' K) (by rfl) T.b_isinstance (by decide +kernel) (pa_cons (pv 0) (pa_cons (pe_ty "list" T.b_list) pa_nil))) (pe_callB (call_isiK' K) (by rfl) T.b_isinstance (by decide +kernel) (pa_cons (pv 1) (pa_cons (pe_ty "list" T.b_list) pa_nil))) (nomark _))))) (pss_one (ps_ret pe_bl)) pss_nil)
      (pss_cons (ps_if (pt_cmpR (op_neDK K hr.units) (pe_callB (call_lenK K) (by rfl) T.b_len (by decide +kernel) (pa_cons (pv 0) pa_nil)) (pe_callB (call_lenK K) (by rfl) T.b_len (by decide +kernel) (pa_cons (pv 1) pa_nil)) (nomark _)) (pss_one (ps_ret pe_bl)) pss_nil)
      (pss_one (ps_ret (pe_cmpR (op_eqDK K hr.units) (pe_lc (own := [("_law_k", 2)]) rfl sc__law_alike.nd (pi_range1 rfl T.b_range (pa_cons (pe_callB (call_lenK K) (by rfl) T.b_len (by decide +kernel) (pa_cons (pv 1) pa_nil)) pa_nil)) (blkOk_by (own := [("_law_k", 2)]) (N := N__law_alike) (sc := defScope s__law_alike) (by decide +kernel)) (fun _ _ _ _ _ => (pg_name (i := 2) sc__law_alike.nd rfl (Or.inl rfl))) (fun _ _ _ _ _ => pts_one (pt_not (pt_val (pe_cf f__law_alike hr T.g__law_alike (pa_cons (pe_ix (ix_listK K) (pv 0) (pv 2) (fun _ _ => rfl)) (pa_cons (pe_ix (ix_listK K) (pv 1) (pv 2) (fun _ _ => rfl)) pa_nil)))))) (fun _ _ _ _ _ => (pv 2))) (pe_lst pa_nil) (nomark _)))))) pss_nil)
      (pss_cons (ps_if (PW.pt (pw_or (pt_cmpR op_isNn (pv 1) pe_non (nomark _)) (pw_or1 (pt_val (pe_callB (call_isiK' K) (by rfl) T.b_isinstance (by decide +kernel) (pa_cons (pv 1) (pa_cons (pe_ty "str" T.b_str) pa_nil))))))) (pss_one (ps_ret (pe_and (pe_cmpR (op_eqDK K hr.units) (pv 0) (pv 1) (nomark _)) (pe_one (pe_cmpR (op_eqDK K hr.units) (pe_callB (call_isiK' K) (by rfl) T.b_isinstance (by decide +kernel) (pa_cons (pv 0) (pa_cons (pe_ty "str" T.b_str) pa_nil))) (pe_callB (call_isiK' K) (by rfl) T.b_isinstance (by decide +kernel) (pa_cons (pv 1) (pa_cons (pe_ty "str" T.b_str) pa_nil))) (nomark _)))))) pss_nil)
      (pss_one (ps_ret (pe_and (pe_callB (call_isiK' K) (by rfl) T.b_isinstance (by decide +kernel) (pa_cons (pv 0) (pa_cons (pe_ty "int" T.b_int) pa_nil))) (pe_and (pe_cmpR (op_eqDK K hr.units) (pe_callB (call_isiK' K) (by rfl) T.b_isinstance (by decide +kernel) (pa_cons (pv 0) (pa_cons (pe_ty "bool" T.b_bool) pa_nil))) (pe_callB (call_isiK' K) (by rfl) T.b_isinstance (by decide +kernel) (pa_cons (pv 1) (pa_cons (pe_ty "bool" T.b_bool) pa_nil))) (nomark _)) (pe_one (pe_cmpR (op_eqDK K hr.units) (pv 0) (pv 1) (nomark _)))))))))), ?_⟩
      walk_at "eds"
      refine ⟨_, _, _, rfl, kit_list_tuple, kit_list_list, ?_⟩
      walk_at "eds"
      refine ⟨_, _, _, rfl, kit_list_tuple, kit_list_list, ?_⟩
      walk_at "eds"
      rw [eqv_nat, decide_eq_true rfl]
      walk_at "eds"
      refine ed_lcR (by decide) ?_
      walk_at "eds"
      refine ⟨by omega, fun _ acc => acc = [], rfl, fun i acc hi ea => ?_, fun p acc hp _ ea => ?_⟩
      · walk_at "eds"
        refine rd_ixL (List.getElem?_eq_getElem hi) ?_
        walk_at "eds"
        refine rd_ixL (List.getElem?_eq_getElem hi) ?_
        walk_at "eds"
        refine ⟨.inl ⟨_, rfl, alA_mem hal (List.getElem_mem hi)⟩, fun _ => ?_⟩
        walk_at "eds"
        exact ea
      · subst ea
        walk_at "eds"
        refine rd_eqL (x := []) (y := []) (by decide +kernel) (by decide +kernel) ?_
        rw [show PyData.eqv (.list []) (.list []) = true by simp [PyData.eqv, PyData.eqvAll]]
        exact o
end
end Q47
set_option maxHeartbeats 4000000
/-! ### mix -/
namespace Q47
open PySem L2
open PySem.W (Frag)
open PyProof.Rows (envOfC)
section
variable {P : Program} {w : World} {K : Frag} {mg : Str → Option Value} {base : Heap}
abbrev s__law_mix : Stmt := topS 63
abbrev N__law_mix : List Str := ["_law_script", "_law_seed", "_law_state", "_law_cell"]
theorem sc__law_mix : FnScope N__law_mix ["_law_script", "_law_seed"] (defScope s__law_mix) := ⟨rfl, rfl, rfl, by decide +kernel, rfl, by decide +kernel, by decide +kernel⟩
def spMix (K : Frag) : Sp := fun vs H Q _ => ∃ (a : Addr) (seed : Int) (ns : List Int), vs = [.ref a, .int seed] ∧ SqL K H a (ns.map V.int) ∧ ns.length ≤ 63 ∧ ∀ hA hL H', Same H H' → H hA = none → H hL = none → Src H' hA hL → Q (.ref hA) H'
theorem ok_mix (T : Tx K mg) : Ok P w K mg base 1 ("_law_mix", none) ["_law_script", "_law_seed"] (spMix K) := by
  refine okH T.d__law_mix sc__law_mix (fun _ _ _ _ _ _ us hl => match us, hl with | [_, _], _ => rfl) (fun vs H Q E ⟨_, _, _, e, _⟩ => by rw [e]; rfl) fun f cdv Ar outer s H E hr vs Q ⟨a, seed, ns, e, hs, hl, q⟩ => ?_
  subst e
  refine ⟨_, (pss_cons (ps_set (i := 2) sc__law_mix.nd rfl (Or.inl rfl) (pv 1))
      (pss_cons (ps_for PassesOwn.never rfl (pi_listK K (pv 0)) (pg_name (i := 3) sc__law_mix.nd rfl (Or.inl rfl)) (pss_one (ps_set (i := 2) sc__law_mix.nd rfl (Or.inl rfl) (pe_op op_modN (pe_callTy call_int1 (by rfl) T.b_int (by decide +kernel) (pa_cons (pe_op op_add (pe_op op_add (pe_op op_mul (pv 2) pe_int) (pe_op op_modN (pe_callTy call_int1 (by rfl) T.b_int (by decide +kernel) (pa_cons (pv 3) pa_nil)) pe_int)) pe_int) pa_nil)) pe_int))))
      (pss_one (ps_ret (pe_lst (pa_cons (pv 2) (pa_cons (pe_callTy (call_listK K) (by rfl) T.b_list (by decide +kernel) (pa_cons (pv 0) pa_nil)) (pa_cons pe_int pa_nil)))))))), ?_⟩
  refine ⟨_, rfl, _, rfl, a, rfl, ⟨_, hs⟩, for_list (xs := ns.map V.int) (fun i σ' H' => H' = H ∧ ∃ (st : Int) (x : Option V), σ' = [some (.ref a), some (.int seed), some (.int st), x]) ⟨rfl, seed, none, rfl⟩ (fun i σ' H' _ ⟨e, _⟩ => e ▸ hs) (fun i x σ' H' hx ⟨eH, st, y, eσ⟩ => ?_) (fun σ' H' ⟨eH, st, y, eσ⟩ => ?_)⟩
  · subst eH eσ
    obtain ⟨n, hn⟩ : ∃ n : Int, x = .int n := by
      rw [List.getElem?_map] at hx
      cases e : ns[i]? with
      | none => rw [e] at hx; cases hx
      | some n => rw [e] at hx; exact ⟨n, (Option.some.inj hx).symm⟩
    subst hn
    exact ⟨_, rfl, _, _, rfl, rfl, .inr ⟨by decide, by decide⟩, _, rfl, .inl ⟨n, rfl, _, _, rfl, rfl, (by decide : (2147483629 : Int) ≠ 0), _, _, rfl, rfl, _, _, rfl, rfl, .inl ⟨_, rfl, _, _, rfl, rfl, (by decide : (2147483647 : Int) ≠ 0), rfl, _, _, rfl⟩⟩⟩
  · subst eH eσ
    refine ⟨_, rfl, _, rfl, a, _, rfl, .inl hs, fun l hn => ⟨by show 3 ≤ sizeLine; decide, fun p hp => ?_⟩⟩
    have np : p ≠ l := fun z => by
      rw [z, upd_same] at hp
      cases hp
    rw [upd_ne np] at hp
    exact q p l _ ((same_new hn).trans (same_new (by rw [upd_ne np]; exact hp))) hp hn ⟨⟨st, 0, ns, upd_same, by rw [upd_ne np.symm, upd_same], Int.le_refl 0, by omega⟩, np⟩
end
end Q47
set_option maxHeartbeats 4000000
/-! ### number words -/
namespace Q47
open PySem L2
open PySem.W (Frag)
open PyProof.Rows (envOfC)
section
variable {K : Frag} {W : Wd} {Γ : Gm} {κ : A → Prop} {tl te : TE} {tt : TT}
/-- over a text -/
theorem ed_lcS {j : Nat} {vs : List Nat} (hj : j ∈ vs) (h : ED K W tl Γ fun a => ∃ x : Str, a = .d (.str x) ∧ x.cps.size ≤ 50000 ∧ ∃ I : Nat → List PyData → Prop, I 0 [] ∧
      (∀ (i : Nat) c acc, x.cps[i]? = some c → I i acc → TD K W tt ((wipeG Γ vs).set j (some (.d (.str ⟨#[c]⟩)))) fun b => if b = true then ED K W te ((wipeG Γ vs).set j (some (.d (.str ⟨#[c]⟩)))) fun a => ∃ y, a = .d y ∧ I (i + 1) (acc ++ [y]) else I (i + 1) acc) ∧
      ∀ p acc, New W Γ p → acc.length ≤ x.cps.size → I x.cps.size acc → κ (.o p acc)) : ED K W (tLc (iStr tl) (gName j) tt te vs) Γ κ := fun σ H Q e s q => by
  refine h σ H _ e s fun v H1 a r1 s1 ha k => ?_
  obtain ⟨x, rfl, hl, I, h0, hb, hk⟩ := k
  cases ha
  refine ⟨x, rfl, fun Dl hD => lc_it walk_str (Lc K W Γ σ vs I H1 Dl) (lc_start s1 hD h0) (fun _ _ _ _ => trivial) (fun i v H H' hi c y => ?_) fun H' c => ?_⟩
  · obtain ⟨rfl, cc, hc, rfl⟩ := y
    exact lc_turn hj (by omega) (e.keep s r1) s1 hD c (Rt.str _) fun acc ia => hb i cc acc hc ia
  · exact lc_end e s r1 s1 hD c hk q
theorem cd_lenS {x : Str} (hl : x.length ≤ sizeLine) (k : κ (.d (.int (x.length : Int)))) : CD K W Γ (fun xs H Q => ∃ z, xs = [.str z] ∧ z.length ≤ sizeLine ∧ Q (.int z.length) H) [.d (.str x)] κ := fun σ vs H Q e hv s q => by
  cases hv with
  | cons hv hn =>
    cases hn
    cases hv
    exact ⟨x, rfl, hl, q _ H (.d _) Ro.refl s (Rt.int _) k⟩
theorem rd_notSign {c : Nat} {z : Str} (k : κ (.d (.bool (!decide (c ∈ z.cps.toList))))) : RD K W Γ (fun x y H Q => ∃ (c : Nat) (z : Str), x = .str ⟨#[c]⟩ ∧ y = .str z ∧ Q (.bl (!decide (c ∈ z.cps.toList))) H) (.d (.str ⟨#[c]⟩)) (.d (.str z)) κ := fun σ v u H Q e hv hu s q => by
  cases hv
  cases hu
  exact ⟨c, z, rfl, rfl, q _ H (.d _) Ro.refl s (Rt.bl _) k⟩
theorem rd_ixS {z : Str} {i : Nat} {c : Nat} (hl : z.length ≤ sizeLine) (h : z.cps.toList[i]? = some c) (k : κ (.d (.str ⟨#[c]⟩))) : RD K W Γ rIxS (.d (.str z)) (.d (.int (i : Int))) κ := fun σ v u H Q e hv hu s q => by
  cases hv
  cases hu
  exact ⟨z, _, c, rfl, rfl, hl, atI_nat h, q _ H (.d _) Ro.refl s (Rt.str _) k⟩
end
theorem dig_in : ∀ n : Nat, n < 10 → decide (48 + n ∈ ("0123456789" : Str).cps.toList) = true := by decide +kernel
theorem num_str {n : Nat} (h : n < 10) : Str.ofString (toString ((n : Nat) : Int)) = ⟨#[48 + n]⟩ := by
  have q := TL.tl_num n
  rw [TL.numL_lt h] at q
  generalize Str.ofString (toString ((n : Nat) : Int)) = x at q
  cases x with
  | mk c =>
    have q2 : c.toList = [48 + n] := q
    have q3 : c = #[48 + n] := Array.toList_inj.mp q2
    rw [q3]
local macro_rules | `(tactic| walk_at "kit") => `(tactic| first | with_reducible exact kit_int_int | with_reducible exact kit_int_bool | with_reducible exact kit_int_str | with_reducible exact kit_int_tuple | with_reducible exact kit_int_list | with_reducible exact kit_int_dict | with_reducible exact kit_str_int | with_reducible exact kit_str_bool | with_reducible exact kit_str_str | with_reducible exact kit_str_tuple | with_reducible exact kit_str_list | with_reducible exact kit_str_dict | with_reducible exact kit_tuple_int | with_reducible exact kit_tuple_bool | with_reducible exact kit_tuple_str | with_reducible exact kit_tuple_tuple | with_reducible exact kit_tuple_list | with_reducible exact kit_tuple_dict | with_reducible exact kit_list_int | with_reducible exact kit_list_bool | with_reducible exact kit_list_str | with_reducible exact kit_list_tuple | with_reducible exact kit_list_list | with_reducible exact kit_list_dict)
local macro_rules | `(tactic| walk_at "shp") => `(tactic| first
  | with_reducible exact (shp_int _).ok
  | with_reducible exact (shp_pl _).ok
  | with_reducible exact (shp_bool _).ok
  | with_reducible exact (shp_it _).ok
  | with_reducible exact (shp_str (by decide +kernel)).ok
  | with_reducible exact (shp_2 (shp_str (by decide +kernel)) (shp_int _)).ok
  | with_reducible exact (shp_st _).ok
  | with_reducible exact (shp_str (kd_ok _)).ok
  | with_reducible exact (shp_str (pl_ok _)).ok
  | with_reducible exact (shp_pls _).ok
  | with_reducible exact (shp_hs _).ok
  | with_reducible exact shp_nil.ok
  | with_reducible exact (shp_dd _).ok
  | with_reducible exact (shp_sg _).ok
  | with_reducible exact (shp_rw _).ok
  | assumption)
local macro_rules | `(tactic| walk_at "ed") => `(tactic| first
  | ((with_reducible refine' ed_var ?hv ?_); (case hv => exact rfl))
  | with_reducible refine ed_int ?_
  | with_reducible refine ed_str ?_
  | with_reducible refine ed_bl ?_
  | with_reducible refine ed_non ?_
  | with_reducible refine edd_cons ?_
  | with_reducible refine edd_nil ?_
  | with_reducible refine eda_cons ?_
  | with_reducible refine eda_nil ?_
  | with_reducible refine ⟨_, rfl, _, fldH1 ‹_›, ?_⟩
  | with_reducible refine ⟨_, rfl, _, fldH2 ‹_›, ?_⟩
  | with_reducible refine ⟨_, rfl, _, fldH3 ‹_›, ?_⟩
  | with_reducible refine ⟨_, rfl, _, fldH4 ‹_›, ?_⟩
  | with_reducible refine ⟨_, rfl, insH, ?_⟩
  | with_reducible refine ⟨_, rfl, ?_⟩
  | with_reducible refine ⟨_, _, rfl, ?_⟩
  | with_reducible refine ⟨_, _, _, rfl, ?_⟩
  | with_reducible refine ed_tupD ?_
  | with_reducible refine ed_lstD ?_
  | with_reducible refine ed_op ?_
  | with_reducible refine ed_chain ?_
  | with_reducible refine ed_fld ?_
  | with_reducible refine ed_prop ?_
  | with_reducible refine ed_meth ?_
  | with_reducible refine gd_tup rfl ?_
  | with_reducible refine gds_cons ?_
  | with_reducible refine gds_nil ?_
  | with_reducible refine ed_slHi ?_
  | with_reducible refine ed_slLo ?_
  | ((with_reducible refine' cd_isiI ?hb ?_); (case hb => walk_at "kit"))
  | ((with_reducible refine' cd_isiS ?hb ?_); (case hb => walk_at "kit"))
  | ((with_reducible refine' cd_isiT ?hb ?_); (case hb => walk_at "kit"))
  | ((with_reducible refine' cd_isiL ?hb ?_); (case hb => walk_at "kit"))
  | with_reducible refine ed_ty ?_
  | with_reducible refine fun (_ : NewA _ _ _) => ?_
  | with_reducible refine ed_lstRg ?_
  | with_reducible refine ed_isi2 ?_
  | with_reducible refine ed_cb ?_
  | with_reducible refine ed_call ?_
  | with_reducible refine ed_and ?_
  | with_reducible refine ed_or ?_
  | with_reducible refine ed_not ?_
  | with_reducible refine ed_if ?_
  | with_reducible refine td_test ?_
  | with_reducible refine td_B ?_
  | with_reducible refine td_and ?_
  | with_reducible refine td_or ?_
  | with_reducible refine td_not ?_
  | with_reducible refine td_yes ?_
  | with_reducible refine rd_I0 ?_
  | with_reducible refine rd_eqT ?_
  | with_reducible refine rd_neT ?_
  | with_reducible refine rd_B0 ?_
  | ((with_reducible refine rd_eq ?hx ?hy ?_); (case hx => walk_at "shp"); (case hy => walk_at "shp"))
  | ((with_reducible refine rd_ne ?hx ?hy ?_); (case hx => walk_at "shp"); (case hy => walk_at "shp"))
  | ((with_reducible refine' rd_ixTi ?h0 ?hi ?_); (case h0 => decide); (case hi => exact rfl))
  | ((with_reducible refine len_ok ?hl ?_); (case hl => exact rfl))
  | ((with_reducible refine ed_dsel3 ?a12 ?a13 ?a23 ?_); (case a12 => decide +kernel); (case a13 => decide +kernel); (case a23 => decide +kernel))
  | with_reducible refine fun _ (_ : New _ _ _) => ?_
  | with_reducible refine cd_lenK (.inr ⟨_, rfl, ?_⟩)
  | with_reducible refine cd_lenK (.inl ⟨_, _, rfl, ?_⟩)
  | with_reducible refine cd_tupleK ?_
  | ((with_reducible refine if_t ?hc ?_); (case hc => first | rfl | decide +kernel))
  | ((with_reducible refine if_f ?hc ?_); (case hc => first | rfl | decide +kernel))
  | with_reducible refine sd_par ?_
  | with_reducible refine sd_par3 ?_
  | with_reducible refine sd_next ?_
  | with_reducible refine sd_ret ?_
  | with_reducible refine sd_drop ?_
  | with_reducible refine sd_seq ?_
  | with_reducible refine sd_asg ?_
  | with_reducible refine gd_name ?_
  | with_reducible refine sd_if ?_)
local macro_rules | `(tactic| walk_at "out") => `(tactic| exact ⟨by assumption, fun _ _ z => by cases z⟩)
local macro_rules | `(tactic| walk_at "eds") => `(tactic| repeat walk_at "ed")

section
variable {P : Program} {w : World} {K : Frag} {mg : Str → Option Value} {base : Heap}
abbrev s_is_number_word : Stmt := topS 56
abbrev N_is_number_word : List Str := ["word", "sign"]
theorem sc_is_number_word : FnScope N_is_number_word ["word"] (defScope s_is_number_word) := ⟨rfl, rfl, rfl, by decide +kernel, rfl, by decide +kernel, by decide +kernel⟩
def preNW : Wd → List A → (A → Prop) → Prop := fun _ as κ => ∃ n : Nat, as = [.d (.str (Str.ofString (toString ((n : Nat) : Int))))] ∧ n < 10 ∧ κ (.d (.bool true))
theorem ok_nw (T : Tx K mg) : Ok P w K mg base 1 ("is_number_word", none) ["word"] (spD K preNW) := by
  refine okD T.d_is_number_word sc_is_number_word (fun _ _ _ _ _ _ us hl => match us, hl with | [_], _ => rfl) (fun _ _ _ ⟨_, e, _⟩ => by rw [e]; rfl) (fun _ _ _ _ h => h) fun f cdv Ar outer s H E hr W as κ ⟨n, e, hn, k⟩ => ?_
  rw [num_str hn] at e
  subst e
  refine ⟨_, (pss_cons (ps_if (PW.pt (pw_or (pt_not (pt_chain op_le op_le pe_int (pe_callB call_len_str (by rfl) T.b_len (by decide +kernel) (pa_cons (pv 0) pa_nil)) pe_int)) (pw_or1 (pt_cmpR (op_neDK K hr.units) (pe_lc (own := [("sign", 1)]) rfl sc_is_number_word.nd (pi_str (pv 0)) (blkOk_by (own := [("sign", 1)]) (N := N_is_number_word) (sc := defScope s_is_number_word) (by decide +kernel)) (fun _ _ _ _ _ => (pg_name (i := 1) sc_is_number_word.nd rfl (Or.inl rfl))) (fun _ _ _ _ _ => pts_one (pt_cmpR op_notIn_sign (pv 1) (pe_gS T.s_DIGITS) (by rfl))) (fun _ _ _ _ _ => (pv 1))) (pe_lst pa_nil) (nomark _))))) (pss_one (ps_ret pe_bl)) pss_nil)
      (pss_one (ps_ret (pe_or (pe_cmpR op_eq (pv 0) pe_str (nomark _)) (pe_one (pe_cmpR op_ne (pe_ix ix_str (pv 0) pe_int (fun _ _ => rfl)) pe_str (nomark _))))))), ?_⟩
  have o : Out W κ (.d (.bool true)) := ⟨k, fun _ _ z => by cases z⟩
  walk_at "eds"
  refine cd_lenS (by show 1 ≤ sizeLine; decide) ?_
  rw [show (⟨#[48 + n]⟩ : Str).length = 1 from rfl]
  walk_at "eds"
  refine ed_lcS (by decide) ?_
  walk_at "eds"
  refine ⟨by show 1 ≤ 50000; decide, fun _ acc => acc = [], rfl, fun i c acc hc ea => ?_, fun p acc hp _ ea => ?_⟩
  · have ec : c = 48 + n := by
      match i, hc with
      | 0, hc => exact (Option.some.inj hc).symm
      | j + 1, hc => simp at hc
    subst ec
    walk_at "eds"
    refine rd_notSign ?_
    rw [show decide (48 + n ∈ ("0123456789" : Str).cps.toList) = true from dig_in n hn]
    walk_at "eds"
    exact ea
  · subst ea
    walk_at "eds"
    refine rd_neL (x := []) (y := []) (by decide +kernel) (by decide +kernel) ?_
    rw [show PyData.eqv (.list []) (.list []) = true by simp [PyData.eqv, PyData.eqvAll]]
    walk_at "eds"
    refine if_dec (fun _ => o) fun hz => ?_
    walk_at "eds"
    refine rd_ixS (i := 0) (by show 1 ≤ sizeLine; decide) rfl ?_
    walk_at "eds"
    rw [decide_eq_false hz]
    exact o
end
end Q47
set_option maxHeartbeats 4000000
/-! ### lines: what changes -/
namespace Q47
open PySem L2
open PySem.W (Frag)
open PyProof.Rows (envOfC)
/-- a line at p: its words, how far it has come -/
def LnS (K : Frag) (p wl : Addr) (num : Int) (ws : List Str) (k : Nat) (H : Hp) : Prop := ∃ dx, H p = some (.ins (He.ga K "Line") dx [("number", .int num), ("words", .ref wl), ("at", .int (k : Int))]) ∧ H wl = some (.lst (ws.map V.str))
/-- all but p is kept -/
def Adv (p : Addr) (H H' : Hp) : Prop := ∀ a o, a ≠ p → H a = some o → H' a = some o
theorem Adv.trans {p : Addr} {H H1 H2 : Hp} (a : Adv p H H1) (b : Adv p H1 H2) : Adv p H H2 := fun x o n h => b x o n (a x o n h)
theorem Adv.refl {p : Addr} {H : Hp} : Adv p H H := fun _ _ _ h => h
theorem Adv.of {p : Addr} {H H' : Hp} (h : ∀ a o, H a = some o → H' a = some o) : Adv p H H' := fun a o _ z => h a o z
theorem LnS.ne {K : Frag} {p wl : Addr} {num : Int} {ws : List Str} {k : Nat} {H : Hp} (l : LnS K p wl num ws k H) : wl ≠ p := fun z => by
  obtain ⟨dx, h1, h2⟩ := l
  rw [z, h1] at h2
  cases h2
theorem LnS.sqT {K : Frag} {p wl : Addr} {num : Int} {ws : List Str} {k : Nat} {H H' : Hp} (l : LnS K p wl num ws k H) (a : Adv p H H') : ∀ t xs, SqT K H t xs → SqT K H' t xs := by
  obtain ⟨dx, h1, h2⟩ := l
  exact sqT_but h1 a
theorem LnS.ext {K : Frag} {p wl : Addr} {num : Int} {ws : List Str} {k : Nat} {H H' : Hp} (l : LnS K p wl num ws k H) (h : ∀ a o, H a = some o → H' a = some o) : LnS K p wl num ws k H' := by
  obtain ⟨dx, h1, h2⟩ := l
  exact ⟨dx, h _ _ h1, h _ _ h2⟩
section
variable {P : Program} {w : World} {K : Frag} {mg : Str → Option Value} {base : Heap}
abbrev s_Line___init__ : Stmt := inClass (topS 57) 0
abbrev N_Line___init__ : List Str := ["self", "number", "words"]
theorem sc_Line___init__ : FnScope N_Line___init__ ["self", "number", "words"] (defScope s_Line___init__) := ⟨rfl, rfl, rfl, by decide +kernel, rfl, by decide +kernel, by decide +kernel⟩
def spLine (K : Frag) : Sp := fun vs H Q _ => ∃ (x dx : Addr) (num : Int) (wl : Addr), vs = [.ref x, .int num, .ref wl] ∧ H x = some (.ins (He.ga K "Line") dx []) ∧ Q .non (upd H x (.ins (He.ga K "Line") dx [("number", .int num), ("words", .ref wl), ("at", .int 0)]))
theorem ok_Line (T : Tx K mg) : Ok P w K mg base 1 ("Line", some "__init__") ["self", "number", "words"] (spLine K) := by
  refine okH T.d_Line___init__ sc_Line___init__ (fun _ _ _ _ _ _ us hl => match us, hl with | [_, _, _], _ => rfl) (fun vs H Q E ⟨_, _, _, _, e, _⟩ => by rw [e]; rfl) fun f cdv Ar outer s H E hr vs Q ⟨x, dx, num, wl, e, hx, q⟩ => ?_
  subst e
  refine ⟨_, (pss_cons (ps_fldK K (pv 0) (pv 1) rfl)
      (pss_cons (ps_fldK K (pv 0) (pv 2) rfl)
      (pss_one (ps_fldK K (pv 0) pe_int rfl)))), ?_⟩
  refine ⟨_, rfl, _, rfl, x, _, dx, _, rfl, hx, T.c_Line, T.n_Line_number, by decide, ?_⟩
  refine ⟨_, rfl, _, rfl, x, _, dx, _, rfl, upd_same, T.c_Line, T.n_Line_words, Nat.lt_of_le_of_lt (putF_le (Nat.le_refl 0)) (by decide), ?_⟩
  refine ⟨_, rfl, x, _, dx, _, rfl, upd_same, T.c_Line, T.n_Line_at, Nat.lt_of_le_of_lt (putF_le (putF_le (Nat.le_refl 0))) (by decide), ?_⟩
  rw [upd_upd, upd_upd]
  exact q
abbrev s_Line_is_over : Stmt := inClass (topS 57) 2
abbrev N_Line_is_over : List Str := ["self"]
theorem sc_Line_is_over : FnScope N_Line_is_over ["self"] (defScope s_Line_is_over) := ⟨rfl, rfl, rfl, by decide +kernel, rfl, by decide +kernel, by decide +kernel⟩
def spOver (K : Frag) : Sp := fun vs H Q _ => ∃ (p wl : Addr) (num : Int) (ws : List Str) (k : Nat), vs = [.ref p] ∧ LnS K p wl num ws k H ∧ Q (.bl (decide (ws.length ≤ k))) H
theorem ok_over (T : Tx K mg) : Ok P w K mg base 1 ("Line", some "is_over") ["self"] (spOver K) := by
  refine okH T.d_Line_is_over sc_Line_is_over (fun _ _ _ _ _ _ us hl => match us, hl with | [_], _ => rfl) (fun vs H Q E ⟨_, _, _, _, _, e, _⟩ => by rw [e]; rfl) fun f cdv Ar outer s H E hr vs Q ⟨p, wl, num, ws, k, e, ⟨dx, h1, h2⟩, q⟩ => ?_
  subst e
  refine ⟨_, (pss_one (ps_ret (pe_cmpR op_ge (pe_fldK K (pv 0) rfl) (pe_callB (call_lenK K) (by rfl) T.b_len (by decide +kernel) (pa_cons (pe_fldK K (pv 0) rfl) pa_nil)) (nomark _)))), ?_⟩
  refine ⟨_, rfl, p, _, dx, _, _, rfl, h1, T.c_Line, T.n_Line_at, rfl, _, rfl, p, _, dx, _, _, rfl, h1, T.c_Line, T.n_Line_words, rfl, wl, _, rfl, .inl (SqL.of h2), _, _, rfl, rfl, ?_⟩
  have e : decide (((ws.map V.str).length : Int) ≤ (k : Int)) = decide (ws.length ≤ k) := by
    rw [List.length_map, Bool.eq_iff_iff, decide_eq_true_eq, decide_eq_true_eq]
    omega
  rw [← e] at q
  exact q
abbrev s_Line_end : Stmt := inClass (topS 57) 9
abbrev N_Line_end : List Str := ["self"]
theorem sc_Line_end : FnScope N_Line_end ["self"] (defScope s_Line_end) := ⟨rfl, rfl, rfl, by decide +kernel, rfl, by decide +kernel, by decide +kernel⟩
def spEnd (K : Frag) : Sp := fun vs H Q _ => ∃ (p wl : Addr) (num : Int) (ws : List Str) (k : Nat), vs = [.ref p] ∧ LnS K p wl num ws k H ∧ ws.length ≤ k ∧ Q .non H
theorem ok_end (T : Tx K mg) : Ok P w K mg base 2 ("Line", some "end") ["self"] (spEnd K) := by
  have f_Line_is_over : Ok P w K mg base 1 ("Line", some "is_over") ["self"] (spOver K) := ok_over T
  refine okH T.d_Line_end sc_Line_end (fun _ _ _ _ _ _ us hl => match us, hl with | [_], _ => rfl) (fun vs H Q E ⟨_, _, _, _, _, e, _⟩ => by rw [e]; rfl) fun f cdv Ar outer s H E hr vs Q ⟨p, wl, num, ws, k, e, l, hk, q⟩ => ?_
  subst e
  refine ⟨_, (pss_one (ps_if (pt_not (pt_val (pe_cm0 f_Line_is_over (hr.mono (by decide)) T.c_Line T.m_Line_is_over (pv 0)))) pss_never pss_nil)), ?_⟩
  obtain ⟨dx, h1, h2⟩ := id l
  refine ⟨_, rfl, p, dx, _, rfl, h1, rfl, p, wl, num, ws, k, rfl, l, ?_⟩
  rw [decide_eq_true hk]
  exact ⟨_, rfl, q⟩
end
end Q47
set_option maxHeartbeats 4000000
/-! ### taking words -/
namespace Q47
open PySem L2
open PySem.W (Frag)
open PyProof.Rows (envOfC)
/-- a line that has come on, with a value -/
def LnQ (K : Frag) (p wl : Addr) (num : Int) (ws : List Str) (k : Nat) (d : PyData) (H : Hp) (Q : V → Hp → Prop) : Prop := ∀ v H', Adv p H H' → LnS K p wl num ws k H' → Rt K H' v d → Q v H'
theorem LnS.step {K : Frag} {p wl dx : Addr} {num : Int} {ws : List Str} {k : Nat} {H : Hp} (h1 : H p = some (.ins (He.ga K "Line") dx [("number", .int num), ("words", .ref wl), ("at", .int (k : Int))])) (h2 : H wl = some (.lst (ws.map V.str))) : LnS K p wl num ws (k + 1) (upd H p (.ins (He.ga K "Line") dx (putF "at" (.int ((k : Int) + 1)) [("number", .int num), ("words", .ref wl), ("at", .int (k : Int))]))) ∧ Adv p H (upd H p (.ins (He.ga K "Line") dx (putF "at" (.int ((k : Int) + 1)) [("number", .int num), ("words", .ref wl), ("at", .int (k : Int))]))) := by
  have hne : wl ≠ p := fun z => by
    rw [z, h1] at h2
    cases h2
  exact ⟨⟨dx, by rw [upd_same]; rfl, by rw [upd_ne hne]; exact h2⟩, fun a o n z => by rw [upd_ne n]; exact z⟩
theorem at_w {ws : List Str} {k : Nat} {x : Str} (h : ws[k]? = some x) : atI (ws.map V.str) (k : Int) = some (.str x) := atI_nat (by rw [List.getElem?_map, h]; rfl)
theorem at_w1 {ws : List Str} {k : Nat} {x : Str} (h : ws[k]? = some x) : atI (ws.map V.str) ((k : Int) + 1 - 1) = some (.str x) := by
  rw [Int.add_sub_cancel]
  exact at_w h
theorem not_over {ws : List Str} {k : Nat} {x : Str} (h : ws[k]? = some x) : decide (ws.length ≤ k) = false := by
  have := (List.getElem?_eq_some_iff.1 h).1
  exact decide_eq_false (by omega)
/-- a data promise, within a raw walk -/
theorem sp_use {K : Frag} {pre : Wd → List A → (A → Prop) → Prop} {vs : List V} {H : Hp} {Q : VK} {E : XK} {as : List A} (r : A) (ha : HasA K (W0.at H) H vs as) (hp : pre (W0.at H) as fun a => a = r) (q : ∀ v H', (∀ a o, H a = some o → H' a = some o) → Has K (W0.at H') H' v r → Q v H') : spD K pre vs H Q E :=
  ⟨W0.at H, as, _, at_S, ha, hp, fun v H' a ro _ hv _ e => by
    subst e
    exact q v H' (fun a o z => ro a o (fun z => z) z) (has_W hv)⟩
section
variable {P : Program} {w : World} {K : Frag} {mg : Str → Option Value} {base : Heap}
abbrev s_Line_take_word : Stmt := inClass (topS 57) 3
abbrev N_Line_take_word : List Str := ["self", "words"]
theorem sc_Line_take_word : FnScope N_Line_take_word ["self", "words"] (defScope s_Line_take_word) := ⟨rfl, rfl, rfl, by decide +kernel, rfl, by decide +kernel, by decide +kernel⟩
def spTW (K : Frag) : Sp := fun vs H Q _ => ∃ (p wl : Addr) (num : Int) (ws : List Str) (k : Nat) (t : V) (os : List Str) (x : Str), vs = [.ref p, t] ∧ LnS K p wl num ws k H ∧ Rt K H t (.tuple (os.map PyData.str)) ∧ ws[k]? = some x ∧ x ∈ os ∧ LnQ K p wl num ws (k + 1) (.str x) H Q
theorem ok_tw (T : Tx K mg) : Ok P w K mg base 2 ("Line", some "take_word") ["self", "words"] (spTW K) := by
  have f_Line_is_over : Ok P w K mg base 1 ("Line", some "is_over") ["self"] (spOver K) := ok_over T
  refine okH T.d_Line_take_word sc_Line_take_word (fun _ _ _ _ _ _ us hl => match us, hl with | [_, _], _ => rfl) (fun vs H Q E ⟨_, _, _, _, _, _, _, _, e, _⟩ => by rw [e]; rfl) fun f cdv Ar outer s H E hr vs Q ⟨p, wl, num, ws, k, t, os, x, e, l, ht, hx, hm, q⟩ => ?_
  subst e
  refine ⟨_, (pss_cons (ps_if (PW.pt (pw_or (pt_val (pe_cm0 f_Line_is_over (hr.mono (by decide)) T.c_Line T.m_Line_is_over (pv 0))) (pw_or1 (pt_cmpR (op_notIn_seqK K) (pe_ix (ix_listK K) (pe_fldK K (pv 0) rfl) (pe_fldK K (pv 0) rfl) (fun _ _ => rfl)) (pv 1) (by rfl))))) pss_never pss_nil)
      (pss_cons (ps_fldaugK K (pv 0) pe_int in_add)
      (pss_one (ps_ret (pe_ix (ix_listK K) (pe_fldK K (pv 0) rfl) (pe_op op_sub (pe_fldK K (pv 0) rfl) pe_int) (fun _ _ => rfl)))))), ?_⟩
  obtain ⟨dx, h1, h2⟩ := id l
  refine ⟨_, rfl, p, dx, _, rfl, h1, rfl, p, wl, num, ws, k, rfl, l, ?_⟩
  rw [not_over hx]
  refine ⟨_, rfl, ?_⟩
  cases ht with
  | tup hq r =>
    have e := r.of_strs
    subst e
    refine ⟨_, rfl, p, _, dx, _, _, rfl, h1, T.c_Line, T.n_Line_words, rfl, _, rfl, p, _, dx, _, _, rfl, h1, T.c_Line, T.n_Line_at, rfl, wl, _, _, _, rfl, rfl, SqL.of h2, at_w hx, _, rfl, _, _, rfl, .inr hq, rfl, flat_strs os, ?_⟩
    rw [inV_strs, decide_eq_true hm]
    refine ⟨_, rfl, ?_⟩
    refine ⟨_, rfl, p, _, dx, _, _, rfl, h1, T.c_Line, T.n_Line_at, rfl, _, _, rfl, rfl, dx, _, h1, (by show 3 < 1000; decide), ?_⟩
    obtain ⟨g, ad⟩ := LnS.step h1 h2
    obtain ⟨dx', g1, g2⟩ := id g
    refine ⟨_, rfl, p, _, dx', _, _, rfl, g1, T.c_Line, T.n_Line_words, rfl, _, rfl, p, _, dx', _, _, rfl, g1, T.c_Line, T.n_Line_at, rfl, _, _, rfl, rfl, wl, _, _, _, rfl, rfl, SqL.of g2, at_w1 hx, ?_⟩
    exact q _ _ ad g (Rt.str x)
abbrev s_Line_take_number : Stmt := inClass (topS 57) 4
abbrev N_Line_take_number : List Str := ["self"]
theorem sc_Line_take_number : FnScope N_Line_take_number ["self"] (defScope s_Line_take_number) := ⟨rfl, rfl, rfl, by decide +kernel, rfl, by decide +kernel, by decide +kernel⟩
def spTN (K : Frag) : Sp := fun vs H Q _ => ∃ (p wl : Addr) (num : Int) (ws : List Str) (k n : Nat), vs = [.ref p] ∧ LnS K p wl num ws k H ∧ ws[k]? = some (Str.ofString (toString (n : Int))) ∧ n < 10 ∧ LnQ K p wl num ws (k + 1) (.int (n : Int)) H Q
theorem ok_tn (T : Tx K mg) : Ok P w K mg base 2 ("Line", some "take_number") ["self"] (spTN K) := by
  have f_Line_is_over : Ok P w K mg base 1 ("Line", some "is_over") ["self"] (spOver K) := ok_over T
  have f_is_number_word : Ok P w K mg base 1 ("is_number_word", none) ["word"] (spD K preNW) := ok_nw T
  refine okH T.d_Line_take_number sc_Line_take_number (fun _ _ _ _ _ _ us hl => match us, hl with | [_], _ => rfl) (fun vs H Q E ⟨_, _, _, _, _, _, e, _⟩ => by rw [e]; rfl) fun f cdv Ar outer s H E hr vs Q ⟨p, wl, num, ws, k, n, e, l, hx, hn, q⟩ => ?_
  subst e
  refine ⟨_, (pss_cons (ps_if (PW.pt (pw_or (pt_val (pe_cm0 f_Line_is_over (hr.mono (by decide)) T.c_Line T.m_Line_is_over (pv 0))) (pw_or1 (pt_not (pt_val (pe_cf f_is_number_word (hr.mono (by decide)) T.g_is_number_word (pa_cons (pe_ix (ix_listK K) (pe_fldK K (pv 0) rfl) (pe_fldK K (pv 0) rfl) (fun _ _ => rfl)) pa_nil))))))) pss_never pss_nil)
      (pss_cons (ps_fldaugK K (pv 0) pe_int in_add)
      (pss_one (ps_ret (pe_callTy call_int_str (by rfl) T.b_int (by decide +kernel) (pa_cons (pe_ix (ix_listK K) (pe_fldK K (pv 0) rfl) (pe_op op_sub (pe_fldK K (pv 0) rfl) pe_int) (fun _ _ => rfl)) pa_nil)))))), ?_⟩
  obtain ⟨dx, h1, h2⟩ := id l
  refine ⟨_, rfl, p, dx, _, rfl, h1, rfl, p, wl, num, ws, k, rfl, l, ?_⟩
  rw [not_over hx]
  refine ⟨_, rfl, ?_⟩
  refine ⟨_, rfl, p, _, dx, _, _, rfl, h1, T.c_Line, T.n_Line_words, rfl, _, rfl, p, _, dx, _, _, rfl, h1, T.c_Line, T.n_Line_at, rfl, wl, _, _, _, rfl, rfl, SqL.of h2, at_w hx, ?_⟩
  refine sp_use (E := E0) (.d (.bool true)) (.cons (show Has K _ H (.str _) (.d (.str _)) from Rt.str _) .nil) ⟨n, rfl, hn, rfl⟩ fun v H' ex hv => ?_
  have hv : Rt K H' v (.bool true) := hv
  cases hv
  refine ⟨_, rfl, ?_⟩
  have h1 := ex _ _ h1
  have h2 := ex _ _ h2
  refine ⟨_, rfl, p, _, dx, _, _, rfl, h1, T.c_Line, T.n_Line_at, rfl, _, _, rfl, rfl, dx, _, h1, (by show 3 < 1000; decide), ?_⟩
  obtain ⟨g, ad⟩ := LnS.step h1 h2
  obtain ⟨dx', g1, g2⟩ := id g
  refine ⟨_, rfl, p, _, dx', _, _, rfl, g1, T.c_Line, T.n_Line_words, rfl, _, rfl, p, _, dx', _, _, rfl, g1, T.c_Line, T.n_Line_at, rfl, _, _, rfl, rfl, wl, _, _, _, rfl, rfl, SqL.of g2, at_w1 hx, ?_⟩
  refine ⟨_, n, rfl, PySem.W.KIN.num_reads (by omega) (by omega), ?_, ?_⟩
  · rw [num_str hn]
    show 1 ≤ 640
    decide
  · exact q _ _ ((Adv.of ex).trans ad) g (Rt.int _)
abbrev s_Line_take_pair : Stmt := inClass (topS 57) 5
abbrev N_Line_take_pair : List Str := ["self", "words", "word"]
theorem sc_Line_take_pair : FnScope N_Line_take_pair ["self", "words"] (defScope s_Line_take_pair) := ⟨rfl, rfl, rfl, by decide +kernel, rfl, by decide +kernel, by decide +kernel⟩
def spTP (K : Frag) : Sp := fun vs H Q _ => ∃ (p wl : Addr) (num : Int) (ws : List Str) (k : Nat) (t : V) (os : List Str) (x : Str) (n : Nat), vs = [.ref p, t] ∧ LnS K p wl num ws k H ∧ Rt K H t (.tuple (os.map PyData.str)) ∧ ws[k]? = some x ∧ x ∈ os ∧ ws[k + 1]? = some (Str.ofString (toString (n : Int))) ∧ n < 10 ∧ LnQ K p wl num ws (k + 2) (.tuple [.str x, .int (n : Int)]) H Q
theorem ok_tp (T : Tx K mg) : Ok P w K mg base 3 ("Line", some "take_pair") ["self", "words"] (spTP K) := by
  have f_Line_take_word : Ok P w K mg base 2 ("Line", some "take_word") ["self", "words"] (spTW K) := ok_tw T
  have f_Line_take_number : Ok P w K mg base 2 ("Line", some "take_number") ["self"] (spTN K) := ok_tn T
  refine okH T.d_Line_take_pair sc_Line_take_pair (fun _ _ _ _ _ _ us hl => match us, hl with | [_, _], _ => rfl) (fun vs H Q E ⟨_, _, _, _, _, _, _, _, _, e, _⟩ => by rw [e]; rfl) fun f cdv Ar outer s H E hr vs Q ⟨p, wl, num, ws, k, t, os, x, n, e, l, ht, hx, hm, hx1, hn, q⟩ => ?_
  subst e
  refine ⟨_, (pss_cons (ps_set (i := 2) sc_Line_take_pair.nd rfl (Or.inl rfl) (pe_cm f_Line_take_word (hr.mono (by decide)) T.c_Line T.m_Line_take_word (pv 0) (pa_cons (pv 1) pa_nil)))
      (pss_one (ps_ret (pe_tup (pa_cons (pv 2) (pa_cons (pe_cm0 f_Line_take_number (hr.mono (by decide)) T.c_Line T.m_Line_take_number (pv 0)) pa_nil)))))), ?_⟩
  obtain ⟨dx, h1, h2⟩ := id l
  refine ⟨_, rfl, p, dx, _, rfl, h1, rfl, _, rfl, p, wl, num, ws, k, t, os, x, rfl, l, ht, hx, hm, fun v H1 a1 l1 r1 => ?_⟩
  cases r1
  obtain ⟨dx1, g1, g2⟩ := id l1
  refine ⟨_, rfl, _, rfl, p, dx1, _, rfl, g1, rfl, p, wl, num, ws, k + 1, n, rfl, l1, hx1, hn, fun v H2 a2 l2 r2 => ?_⟩
  cases r2
  refine ⟨(by show 2 ≤ sizeLine; decide), fun p' hp => ?_⟩
  have sm := same_new (o := .tup [V.str x, .int (n : Int)]) hp
  exact q _ _ ((a1.trans a2).trans (Adv.of sm)) (l2.ext sm) (.tup (.inl (.inl upd_same)) (.cons (.str _) (.cons (.int _) .nil)))
/-- one of some parts -/
def One (form : Str) (d : PyData) : Prop := (form = "items" ∧ ∃ i : It, d = i.e ∧ i.n < 10) ∨ (form = "numbers" ∧ ∃ n : Nat, d = .int (n : Int) ∧ n < 10)
theorem One.pos {form : Str} {d : PyData} (h : One form d) : 1 ≤ (wordsD d).length := by
  rcases h with ⟨_, i, rfl, _⟩ | ⟨_, n, rfl, _⟩ <;> simp [wordsD, wordsA, It.e]
theorem words_at {ds : List PyData} {i : Nat} {d : PyData} (h : ds[i]? = some d) : ∃ r, wordsA ds = wordsA (ds.take i) ++ (wordsD d ++ r) := by
  refine ⟨wordsA (ds.drop (i + 1)), ?_⟩
  rw [← List.append_assoc, wordsA_more h, ← wordsA_app, List.take_append_drop]
theorem words_ix {ws : List Str} {k : Nat} {ds : List PyData} {i j : Nat} {d : PyData} {x : Str} (hd : ws.drop k = wordsA ds) (h : ds[i]? = some d) (hx : (wordsD d)[j]? = some x) : ws[k + (wordsA (ds.take i)).length + j]? = some x := by
  obtain ⟨r, e⟩ := words_at h
  have hj := (List.getElem?_eq_some_iff.1 hx).1
  rw [Nat.add_assoc, ← List.getElem?_drop, hd, e, List.getElem?_append_right (by omega), Nat.add_sub_cancel_left, List.getElem?_append_left hj]
  exact hx
theorem drop_len {ws : List Str} {k : Nat} {ds : List PyData} (hk : k ≤ ws.length) (hd : ws.drop k = wordsA ds) : ws.length = k + (wordsA ds).length := by
  rw [← hd, List.length_drop]
  omega
theorem sqT_butL {K : Frag} {H H' : Hp} {x : Addr} {xs : List V} (hx : H x = some (.lst xs)) (k : ∀ a o, a ≠ x → H a = some o → H' a = some o) : ∀ a ys, SqT K H a ys → SqT K H' a ys := fun a ys h => by
  rcases h with (h | ⟨o, h⟩) | h
  · exact .inl (.inl (k a _ (fun z => by rw [z, hx] at h; cases h) h))
  · exact .inl (.inr ⟨o, k a _ (fun z => by rw [z, hx] at h; cases h) h⟩)
  · exact .inr h
theorem RtA.snoc {K : Frag} {H : Hp} {v : V} {d : PyData} (hv : Rt K H v d) : ∀ {vs : List V} {ds : List PyData}, RtA K H vs ds → RtA K H (vs ++ [v]) (ds ++ [d])
  | _, _, .nil => .cons hv .nil
  | _, _, .cons h r => .cons h (RtA.snoc hv r)
abbrev s_Line_take_many : Stmt := inClass (topS 57) 6
abbrev N_Line_take_many : List Str := ["self", "form", "found"]
theorem sc_Line_take_many : FnScope N_Line_take_many ["self", "form"] (defScope s_Line_take_many) := ⟨rfl, rfl, rfl, by decide +kernel, rfl, by decide +kernel, by decide +kernel⟩
def spTM (K : Frag) : Sp := fun vs H Q _ => ∃ (p wl : Addr) (num : Int) (ws : List Str) (k : Nat) (form : Str) (ds : List PyData), vs = [.ref p, .str form] ∧ LnS K p wl num ws k H ∧ ws.drop k = wordsA ds ∧ k ≤ ws.length ∧ ds.length ≤ 10 ∧ (∀ d ∈ ds, One form d) ∧ LnQ K p wl num ws ws.length (.tuple ds) H Q
theorem ok_tm (T : Tx K mg) : Ok P w K mg base 4 ("Line", some "take_many") ["self", "form"] (spTM K) := by
  have f_Line_take_pair : Ok P w K mg base 3 ("Line", some "take_pair") ["self", "words"] (spTP K) := ok_tp T
  have f_Line_take_number : Ok P w K mg base 2 ("Line", some "take_number") ["self"] (spTN K) := ok_tn T
  have f_Line_is_over : Ok P w K mg base 1 ("Line", some "is_over") ["self"] (spOver K) := ok_over T
  refine okH T.d_Line_take_many sc_Line_take_many (fun _ _ _ _ _ _ us hl => match us, hl with | [_, _], _ => rfl) (fun vs H Q E ⟨_, _, _, _, _, _, _, e, _⟩ => by rw [e]; rfl) fun f cdv Ar outer s H E hr vs Q ⟨p, wl, num, ws, k, form, ds, e, l, hd, hk, hl, ho, q⟩ => ?_
  subst e
  refine ⟨_, (pss_cons (ps_set (i := 2) sc_Line_take_many.nd rfl (Or.inl rfl) (pe_lst pa_nil))
      (pss_cons (ps_while PassesOwn.never (pt_not (pt_val (pe_cm0 f_Line_is_over (hr.mono (by decide)) T.c_Line T.m_Line_is_over (pv 0)))) (pss_one (ps_expr (pe_bmK K PySem.F.plainAttrs_list PySem.F.slot_list_append PySem.F.type_list_append mt_append (pv 2) (pa_cons (pe_ifExp (pt_cmpR op_eq (pv 1) pe_str (nomark _)) (pe_cm f_Line_take_pair (hr.mono (by decide)) T.c_Line T.m_Line_take_pair (pv 0) (pa_cons (pe_tup (pa_cons (pe_gS T.s_BOX) (pa_cons (pe_gS T.s_SEAL) (pa_cons (pe_gS T.s_THING) pa_nil)))) pa_nil)) (pe_cm0 f_Line_take_number (hr.mono (by decide)) T.c_Line T.m_Line_take_number (pv 0))) pa_nil)))))
      (pss_one (ps_ret (pe_callTy (call_tupleK K) (by rfl) T.b_tuple (by decide +kernel) (pa_cons (pv 2) pa_nil)))))), ?_⟩
  refine ⟨(by decide), fun q0 hq0 => ?_⟩
  have sm0 := same_new (o := .lst []) hq0
  refine ⟨fun m σ H' => ∃ i vs, m = ds.length - i ∧ i ≤ ds.length ∧ σ = [some (.ref p), some (.str form), some (.ref q0)] ∧ H' q0 = some (.lst vs) ∧ RtA K H' vs (ds.take i) ∧ Adv p H H' ∧ LnS K p wl num ws (k + (wordsA (ds.take i)).length) H', ⟨_, 0, [], rfl, Nat.zero_le _, rfl, upd_same, .nil, Adv.of sm0, l.ext sm0⟩, ?_⟩
  rintro m σ H1 ⟨i, vs, rfl, hi, rfl, hq, hr1, ad, ln⟩
  obtain ⟨dx, g1, g2⟩ := id ln
  refine ⟨_, rfl, p, dx, _, rfl, g1, rfl, p, wl, num, ws, _, rfl, ln, ?_⟩
  have e1 := drop_len hk hd
  rcases Nat.lt_or_ge i ds.length with hlt | hge
  · have hdi : ds[i]? = some ds[i] := List.getElem?_eq_getElem hlt
    generalize ds[i] = d at hdi
    have hm : d ∈ ds := List.mem_of_getElem? hdi
    have e2 : wordsA ds = wordsA (ds.take (i + 1)) ++ wordsA (ds.drop (i + 1)) := by rw [← wordsA_app, List.take_append_drop]
    have e3 := wordsA_more hdi
    have hp1 := (ho d hm).pos
    have e4 : (wordsA (ds.take (i + 1))).length = (wordsA (ds.take i)).length + (wordsD d).length := by rw [← e3, List.length_append]
    have e5 : (wordsA ds).length = (wordsA (ds.take (i + 1))).length + (wordsA (ds.drop (i + 1))).length := by rw [e2, List.length_append]
    rw [decide_eq_false (by omega)]
    refine ⟨_, rfl, ?_⟩
    refine ⟨fun σ' H' => ∃ vs, σ' = [some (.ref p), some (.str form), some (.ref q0)] ∧ H' q0 = some (.lst vs) ∧ RtA K H' vs (ds.take (i + 1)) ∧ Adv p H H' ∧ LnS K p wl num ws (k + (wordsA (ds.take (i + 1))).length) H', fun σ' H' ⟨vs, h⟩ => ⟨ds.length - (i + 1), by omega, i + 1, vs, rfl, hlt, h⟩, ?_⟩
    have fin : ∀ v H2, Adv p H1 H2 → LnS K p wl num ws (k + (wordsA (ds.take i)).length + (wordsD d).length) H2 → Rt K H2 v d → rAppend (.ref q0) [v] H2 fun _ H3 => ∃ vs, [some (.ref p), some (.str form), some (.ref q0)] = [some (V.ref p), some (.str form), some (.ref q0)] ∧ H3 q0 = some (.lst vs) ∧ RtA K H3 vs (ds.take (i + 1)) ∧ Adv p H H3 ∧ LnS K p wl num ws (k + (wordsA (ds.take (i + 1))).length) H3 := fun v H2 a2 l2 r2 => by
      obtain ⟨d0, l1, l0⟩ := id l
      have n1 : q0 ≠ p := fun z => by rw [z, l1] at hq0; cases hq0
      have n2 : q0 ≠ wl := fun z => by rw [z, l0] at hq0; cases hq0
      have hq2 := a2 _ _ n1 hq
      have kt : ∀ a o, a ≠ q0 → H2 a = some o → upd H2 q0 (.lst (vs ++ [v])) a = some o := fun a o n z => by rw [upd_ne n]; exact z
      have st := sqT_butL (K := K) hq2 kt
      have r3 : RtA K H2 vs (ds.take i) := RtA.keepT (ln.sqT a2) hr1
      have e6 : ds.take (i + 1) = ds.take i ++ [d] := by rw [List.take_add_one, hdi]; rfl
      have lv : vs.length ≤ 10 := by
        have := hr1.length
        rw [List.length_take] at this
        omega
      refine ⟨q0, vs, v, rfl, rfl, hq2, Nat.lt_of_le_of_lt lv (by decide), vs ++ [v], rfl, upd_same, ?_, fun a o n z => ?_, ?_⟩
      · rw [e6]
        exact RtA.snoc (Rt.keepT st r2) (RtA.keepT st r3)
      · rw [upd_ne (fun x => by rw [x, hq0] at z; cases z)]
        exact a2 _ _ n (ad _ _ n z)
      · rw [e4, ← Nat.add_assoc]
        obtain ⟨dx2, f1, f2⟩ := l2
        exact ⟨dx2, by rw [upd_ne (Ne.symm n1)]; exact f1, by rw [upd_ne (Ne.symm n2)]; exact f2⟩
    refine ⟨_, rfl, .inl ⟨rfl, _, SqL.of hq⟩, ?_⟩
    rcases ho d hm with ⟨rfl, it, rfl, hn⟩ | ⟨rfl, n, rfl, hn⟩
    · refine ⟨_, rfl, rfl, _, rfl, ?_⟩
      rw [decide_eq_true rfl]
      refine ⟨_, rfl, p, dx, _, rfl, g1, rfl, (by show 3 ≤ sizeLine; decide), fun t ht => ?_⟩
      have smt := same_new (o := .tup [V.str "box", .str "seal", .str "thing"]) ht
      have e7 : (wordsD it.e).length = 2 := by simp [wordsD, wordsA, It.e]
      exact ⟨p, wl, num, ws, _, .ref t, ["box", "seal", "thing"], it.k.w, it.n, rfl, ln.ext smt, .tup (.inl (.inl upd_same)) (.cons (.str _) (.cons (.str _) (.cons (.str _) .nil))), words_ix (j := 0) hd hdi (by simp [wordsD, wordsA, It.e]), by cases it.k <;> decide +kernel, words_ix (j := 1) hd hdi (by simp [wordsD, wordsA, It.e]), hn, fun v H2 a2 l2 r2 => fin v H2 ((Adv.of smt).trans a2) (by rw [e7]; exact l2) r2⟩
    · refine ⟨_, rfl, rfl, _, rfl, ?_⟩
      rw [show decide (V.str "numbers" = V.str "items") = false by decide +kernel]
      refine ⟨_, rfl, p, dx, _, rfl, g1, rfl, ?_⟩
      have e7 : (wordsD (.int (n : Int))).length = 1 := by simp [wordsD]
      exact ⟨p, wl, num, ws, _, n, rfl, ln, words_ix (j := 0) hd hdi (by simp [wordsD]), hn, fun v H2 a2 l2 r2 => fin v H2 a2 (by rw [e7]; exact l2) r2⟩
  · have : i = ds.length := by omega
    subst this
    rw [List.take_length] at ln hr1
    rw [List.take_length, decide_eq_true (by omega)]
    refine ⟨_, rfl, ?_⟩
    refine ⟨_, rfl, q0, vs, rfl, .inl ⟨SqL.of hq, fun l0 hl0 => ?_⟩⟩
    have sm := same_new (o := .tup vs) hl0
    rw [← e1] at ln
    exact q _ _ (ad.trans (Adv.of sm)) (ln.ext sm) (.tup (.inl (.inl upd_same)) (RtA.keep (Kp.of_same sm) hr1))
end
end Q47
set_option maxHeartbeats 4000000
/-! ### taking rows -/
namespace Q47
open PySem L2
open PySem.W (Frag)
open PyProof.Rows (envOfC)
/-- FORMS -/
structure Tx3 (w : World) (K : Frag) : Prop where
  forms : ∀ x fs, (x, fs) ∈ fmTab → ∃ a, KDct K w (He.ga K "FORMS") x (.ref a) ∧ ∀ H, SqT K H a (fs.map V.str)
  parts : ∃ o, K.lookup (He.ga K "PARTS") = some o ∧ o.cls = .type "tuple" ∧ o.dict = none
section
variable {X : Cx} {e : Expr} {K : Frag} {w : World}
theorem ix_kdictK (K : Frag) (w : World) (hK : X.K = K := by rfl) (hw : X.w = w := by rfl) : IxR X (rIxD K w) := by
  subst hK hw
  exact ix_kdict
end
/-- a part of a row -/
def PtOk (Tk : List Str → PyData → Prop) (f : Str) (d : PyData) : Prop := (f = "number" ∧ ∃ m : Nat, d = .int (m : Int) ∧ m < 10) ∨ (f = "item" ∧ ∃ i : It, d = i.e ∧ i.n < 10) ∨ (f = "place" ∧ ∃ p : Pl, d = p.e ∧ p ≠ .gone ∧ p.n < 10)
    ∨ ((f = "items" ∨ f = "numbers") ∧ ∃ ds : List PyData, d = .tuple ds ∧ ds.length ≤ 10 ∧ ∀ e ∈ ds, One f e) ∨ (f = "sight" ∧ Tk ["at", "bare", "in", "gone"] d)
/-- a row -/
def TkOk (Pt : Str → PyData → Prop) (os : List Str) (d : PyData) : Prop := ∃ (x : Str) (ds : List PyData) (fs : List Str), d = .tuple (.str x :: ds) ∧ x ∈ os ∧ (x, fs) ∈ fmTab ∧ ds.length = fs.length ∧ ∀ (i : Nat) f e, fs[i]? = some f → ds[i]? = some e → Pt f e
def Long (f : Str) : Prop := f = "items" ∨ f = "numbers" ∨ f = "sight"
theorem tab_long : ∀ e ∈ fmTab, e.2.length ≤ 3 ∧ ∀ f ∈ e.2.dropLast, f ≠ "items" ∧ f ≠ "numbers" ∧ f ≠ "sight" := by decide +kernel
theorem long_last {x : Str} {fs : List Str} {i : Nat} {f : Str} (h : (x, fs) ∈ fmTab) (hi : fs[i]? = some f) (hl : Long f) : i + 1 = fs.length := by
  have t := (tab_long _ h).2
  obtain ⟨h1, h2⟩ := List.getElem?_eq_some_iff.1 hi
  by_cases z : i + 1 = fs.length
  · exact z
  · have h3 : i < fs.dropLast.length := by
      rw [List.length_dropLast]
      omega
    have h4 : f ∈ fs.dropLast := by
      rw [← h2, ← List.getElem_dropLast h3]
      exact List.getElem_mem h3
    obtain ⟨n1, n2, n3⟩ := t f h4
    rcases hl with z | z | z
    · exact absurd z n1
    · exact absurd z n2
    · exact absurd z n3
theorem s_ne {a b : Str} (h : a ≠ b) : decide (V.str a = V.str b) = false := decide_eq_false fun z => h (by injection z)
theorem s_eq {a : Str} : decide (V.str a = V.str a) = true := decide_eq_true rfl
section
variable {P : Program} {w : World} {K : Frag} {mg : Str → Option Value} {base : Heap}
abbrev s_Line_take_part : Stmt := inClass (topS 57) 7
abbrev N_Line_take_part : List Str := ["self", "form"]
theorem sc_Line_take_part : FnScope N_Line_take_part ["self", "form"] (defScope s_Line_take_part) := ⟨rfl, rfl, rfl, by decide +kernel, rfl, by decide +kernel, by decide +kernel⟩
def spPt (Pt : Str → PyData → Prop) (K : Frag) : Sp := fun vs H Q _ => ∃ (p wl : Addr) (num : Int) (ws : List Str) (k : Nat) (f : Str) (d : PyData) (r : List Str), vs = [.ref p, .str f] ∧ LnS K p wl num ws k H ∧ ws.drop k = wordsD d ++ r ∧ (Long f → r = []) ∧ k ≤ ws.length ∧ Pt f d ∧ LnQ K p wl num ws (k + (wordsD d).length) d H Q
abbrev s_Line_take_row : Stmt := inClass (topS 57) 8
abbrev N_Line_take_row : List Str := ["self", "words", "word", "found", "form"]
theorem sc_Line_take_row : FnScope N_Line_take_row ["self", "words"] (defScope s_Line_take_row) := ⟨rfl, rfl, rfl, by decide +kernel, rfl, by decide +kernel, by decide +kernel⟩
def spRw (Tk : List Str → PyData → Prop) (K : Frag) : Sp := fun vs H Q _ => ∃ (p wl : Addr) (num : Int) (ws : List Str) (k : Nat) (t : V) (os : List Str) (d : PyData), vs = [.ref p, t] ∧ LnS K p wl num ws k H ∧ Rt K H t (.tuple (os.map PyData.str)) ∧ ws.drop k = wordsD d ∧ k ≤ ws.length ∧ Tk os d ∧ LnQ K p wl num ws ws.length d H Q
theorem ok_rwF (T : Tx K mg) (n : Nat) : Ok P w K mg base (n + 1) ("Line", some "take_row") ["self", "words"] (spRw (fun _ _ => False) K) := by
  refine okH T.d_Line_take_row sc_Line_take_row (fun _ _ _ _ _ _ us hl => match us, hl with | [_, _], _ => rfl) (fun vs H Q E ⟨_, _, _, _, _, _, _, _, e, _⟩ => by rw [e]; rfl) fun f cdv Ar outer s H E hr vs Q ⟨_, _, _, _, _, _, _, _, _, _, _, _, _, z, _⟩ => z.elim
theorem ok_pt (T : Tx K mg) (n : Nat) (Tk : List Str → PyData → Prop) (hs : Ok P w K mg base (n + 5) ("Line", some "take_row") ["self", "words"] (spRw Tk K)) : Ok P w K mg base (n + 6) ("Line", some "take_part") ["self", "form"] (spPt (PtOk Tk) K) := by
  have f_Line_take_number : Ok P w K mg base 2 ("Line", some "take_number") ["self"] (spTN K) := ok_tn T
  have f_Line_take_pair : Ok P w K mg base 3 ("Line", some "take_pair") ["self", "words"] (spTP K) := ok_tp T
  have f_Line_take_many : Ok P w K mg base 4 ("Line", some "take_many") ["self", "form"] (spTM K) := ok_tm T
  have f_Line_take_row : Ok P w K mg base (n + 5) ("Line", some "take_row") ["self", "words"] (spRw Tk K) := hs
  refine okH T.d_Line_take_part sc_Line_take_part (fun _ _ _ _ _ _ us hl => match us, hl with | [_, _], _ => rfl) (fun vs H Q E ⟨_, _, _, _, _, _, _, _, e, _⟩ => by rw [e]; rfl) fun f cdv Ar outer s H E hr vs Q ⟨p, wl, num, ws, k, fm, d, r, e, l, hd, hlo, hk, hp, q⟩ => ?_
  subst e
  refine ⟨_, (pss_cons (ps_if (pt_cmpR op_eq (pv 1) pe_str (nomark _)) (pss_one (ps_ret (pe_cm0 f_Line_take_number (hr.mono (by omega)) T.c_Line T.m_Line_take_number (pv 0)))) pss_nil)
      (pss_cons (ps_if (pt_cmpR op_eq (pv 1) pe_str (nomark _)) (pss_one (ps_ret (pe_cm f_Line_take_pair (hr.mono (by omega)) T.c_Line T.m_Line_take_pair (pv 0) (pa_cons (pe_tup (pa_cons (pe_gS T.s_BOX) (pa_cons (pe_gS T.s_SEAL) (pa_cons (pe_gS T.s_THING) pa_nil)))) pa_nil)))) pss_nil)
      (pss_cons (ps_if (pt_cmpR op_eq (pv 1) pe_str (nomark _)) (pss_one (ps_ret (pe_cm f_Line_take_pair (hr.mono (by omega)) T.c_Line T.m_Line_take_pair (pv 0) (pa_cons (pe_tup (pa_cons (pe_gS T.s_HAND) (pa_cons (pe_gS T.s_BOX) pa_nil))) pa_nil)))) pss_nil)
      (pss_one (ps_ret (pe_ifExp (pt_cmpR op_eq (pv 1) pe_str (nomark _)) (pe_cm f_Line_take_row (hr.mono (by omega)) T.c_Line T.m_Line_take_row (pv 0) (pa_cons (pe_gR T.g_SIGHTS) pa_nil)) (pe_cm f_Line_take_many (hr.mono (by omega)) T.c_Line T.m_Line_take_many (pv 0) (pa_cons (pv 1) pa_nil)))))))), ?_⟩
  obtain ⟨dx, h1, h2⟩ := id l
  have ix : ∀ {j : Nat} {x : Str}, (wordsD d)[j]? = some x → ws[k + j]? = some x := fun {j x} h => by
    have hj := (List.getElem?_eq_some_iff.1 h).1
    rw [← List.getElem?_drop, hd, List.getElem?_append_left hj]
    exact h
  rcases hp with ⟨rfl, m, rfl, hm⟩ | ⟨rfl, it, rfl, hm⟩ | ⟨rfl, pl, rfl, hg, hm⟩ | ⟨hf, ds, rfl, hl, ho⟩ | ⟨rfl, hk2⟩
  · refine ⟨_, rfl, rfl, _, rfl, ?_⟩
    rw [s_eq]
    exact ⟨_, rfl, p, dx, _, rfl, h1, rfl, p, wl, num, ws, k, m, rfl, l, ix (j := 0) (by simp [wordsD]), hm, q⟩
  · refine ⟨_, rfl, rfl, _, rfl, ?_⟩
    rw [s_ne (by decide +kernel)]
    refine ⟨_, rfl, rfl, _, rfl, ?_⟩
    rw [s_eq]
    refine ⟨_, rfl, p, dx, _, rfl, h1, rfl, (by show 3 ≤ sizeLine; decide), fun t ht => ?_⟩
    have smt := same_new (o := .tup [V.str "box", .str "seal", .str "thing"]) ht
    exact ⟨p, wl, num, ws, _, .ref t, ["box", "seal", "thing"], it.k.w, it.n, rfl, l.ext smt, .tup (.inl (.inl upd_same)) (.cons (.str _) (.cons (.str _) (.cons (.str _) .nil))), ix (j := 0) (by simp [wordsD, wordsA, It.e]), by cases it.k <;> decide +kernel, ix (j := 1) (by simp [wordsD, wordsA, It.e]), hm, fun v H2 a2 l2 r2 => q v H2 ((Adv.of smt).trans a2) (by rw [show (wordsD it.e).length = 2 by simp [wordsD, wordsA, It.e]]; exact l2) r2⟩
  · refine ⟨_, rfl, rfl, _, rfl, ?_⟩
    rw [s_ne (by decide +kernel)]
    refine ⟨_, rfl, rfl, _, rfl, ?_⟩
    rw [s_ne (by decide +kernel)]
    refine ⟨_, rfl, rfl, _, rfl, ?_⟩
    rw [s_eq]
    refine ⟨_, rfl, p, dx, _, rfl, h1, rfl, (by show 2 ≤ sizeLine; decide), fun t ht => ?_⟩
    have smt := same_new (o := .tup [V.str "hand", .str "box"]) ht
    exact ⟨p, wl, num, ws, _, .ref t, ["hand", "box"], pl.w, pl.n, rfl, l.ext smt, .tup (.inl (.inl upd_same)) (.cons (.str _) (.cons (.str _) .nil)), ix (j := 0) (by simp [wordsD, wordsA, Pl.e]), by cases pl with | gone => exact absurd rfl hg | hand n => (show ("hand" : Str) ∈ _; decide +kernel) | box n => (show ("box" : Str) ∈ _; decide +kernel), ix (j := 1) (by simp [wordsD, wordsA, Pl.e]), hm, fun v H2 a2 l2 r2 => q v H2 ((Adv.of smt).trans a2) (by rw [show (wordsD pl.e).length = 2 by simp [wordsD, wordsA, Pl.e]]; exact l2) r2⟩
  · have er : r = [] := hlo (by rcases hf with z | z; exact .inl z; exact .inr (.inl z))
    subst er
    rw [List.append_nil] at hd
    have e1 : ws.length = k + (wordsD (.tuple ds)).length := by
      rw [← hd, List.length_drop]
      omega
    rw [← e1] at q
    refine ⟨_, rfl, rfl, _, rfl, ?_⟩
    rw [s_ne (by rcases hf with rfl | rfl <;> decide +kernel)]
    refine ⟨_, rfl, rfl, _, rfl, ?_⟩
    rw [s_ne (by rcases hf with rfl | rfl <;> decide +kernel)]
    refine ⟨_, rfl, rfl, _, rfl, ?_⟩
    rw [s_ne (by rcases hf with rfl | rfl <;> decide +kernel)]
    refine ⟨_, rfl, rfl, _, rfl, ?_⟩
    rw [s_ne (by rcases hf with rfl | rfl <;> decide +kernel)]
    exact ⟨_, rfl, p, dx, _, rfl, h1, rfl, _, rfl, p, wl, num, ws, k, fm, ds, rfl, l, by rw [hd, wordsD], hk, hl, ho, q⟩
  · have er : r = [] := hlo (.inr (.inr rfl))
    subst er
    rw [List.append_nil] at hd
    have e1 : ws.length = k + (wordsD d).length := by
      rw [← hd, List.length_drop]
      omega
    rw [← e1] at q
    refine ⟨_, rfl, rfl, _, rfl, ?_⟩
    rw [s_ne (by decide +kernel)]
    refine ⟨_, rfl, rfl, _, rfl, ?_⟩
    rw [s_ne (by decide +kernel)]
    refine ⟨_, rfl, rfl, _, rfl, ?_⟩
    rw [s_ne (by decide +kernel)]
    refine ⟨_, rfl, rfl, _, rfl, ?_⟩
    rw [s_eq]
    exact ⟨_, rfl, p, dx, _, rfl, h1, rfl, p, wl, num, ws, k, _, ["at", "bare", "in", "gone"], d, rfl, l, .tup (T.t_SIGHTS H) RtA.strs, hd, hk, hk2, q⟩
theorem ok_rw (T : Tx K mg) (T3 : Tx3 w K) (n : Nat) (Pt : Str → PyData → Prop) (h : Ok P w K mg base (n + 3) ("Line", some "take_part") ["self", "form"] (spPt Pt K)) : Ok P w K mg base (n + 4) ("Line", some "take_row") ["self", "words"] (spRw (TkOk Pt) K) := by
  have f_Line_take_word : Ok P w K mg base 2 ("Line", some "take_word") ["self", "words"] (spTW K) := ok_tw T
  have f_Line_take_part : Ok P w K mg base (n + 3) ("Line", some "take_part") ["self", "form"] (spPt Pt K) := h
  refine okH T.d_Line_take_row sc_Line_take_row (fun _ _ _ _ _ _ us hl => match us, hl with | [_, _], _ => rfl) (fun vs H Q E ⟨_, _, _, _, _, _, _, _, e, _⟩ => by rw [e]; rfl) fun f cdv Ar outer s H E hr vs Q ⟨p, wl, num, ws, k, t, os, d, e, l, ht, hd, hk, hp, q⟩ => ?_
  subst e
  refine ⟨_, (pss_cons (ps_set (i := 2) sc_Line_take_row.nd rfl (Or.inl rfl) (pe_cm f_Line_take_word (hr.mono (by omega)) T.c_Line T.m_Line_take_word (pv 0) (pa_cons (pv 1) pa_nil)))
      (pss_cons (ps_set (i := 3) sc_Line_take_row.nd rfl (Or.inl rfl) (pe_tup (pa_cons (pv 2) pa_nil)))
      (pss_cons (ps_for PassesOwn.never rfl (pi_tupK K (pe_ix (ix_kdictK K w) (pe_gR T.g_FORMS) (pv 2) (fun _ _ => rfl))) (pg_name (i := 4) sc_Line_take_row.nd rfl (Or.inl rfl)) (pss_one (ps_set (i := 3) sc_Line_take_row.nd rfl (Or.inl rfl) (pe_op (op_catTK K) (pv 3) (pe_tup (pa_cons (pe_cm f_Line_take_part (hr.mono (by omega)) T.c_Line T.m_Line_take_part (pv 0) (pa_cons (pv 4) pa_nil)) pa_nil))))))
      (pss_one (ps_ret (pv 3)))))), ?_⟩
  obtain ⟨dx, h1, h2⟩ := id l
  obtain ⟨x, ds, fs, rfl, hx, hfs, hlen, hpt⟩ := hp
  have hw : ws.drop k = x :: wordsA ds := by rw [hd]; simp [wordsD, wordsA]
  have hx0 : ws[k]? = some x := by
    have : (ws.drop k)[0]? = some x := by rw [hw]; rfl
    rw [List.getElem?_drop] at this
    exact this
  have hd1 : ws.drop (k + 1) = wordsA ds := by rw [← List.drop_drop, hw]; rfl
  have hk1 : k + 1 ≤ ws.length := (List.getElem?_eq_some_iff.1 hx0).1
  have e1 := drop_len hk1 hd1
  have h3 := (tab_long _ hfs).1
  have h3 : fs.length ≤ 3 := h3
  obtain ⟨fa, kd, sf⟩ := T3.forms x fs hfs
  refine ⟨_, rfl, p, dx, _, rfl, h1, rfl, _, rfl, p, wl, num, ws, k, t, os, x, rfl, l, ht, hx0, hx, fun v H1 a1 l1 r1 => ?_⟩
  cases r1
  refine ⟨_, rfl, (by show 1 ≤ sizeLine; decide), fun q0 hq0 => ?_⟩
  have sm0 := same_new (o := .tup [V.str x]) hq0
  refine ⟨_, rfl, _, x, _, rfl, rfl, kd, fa, rfl, ⟨_, sf _⟩, ?_⟩
  refine for_tup (K := K) (xs := fs.map V.str) (fun i σ' H' => ∃ fb vs y, σ' = [some (.ref p), some t, some (.str x), some (.ref fb), y] ∧ SqT K H' fb vs ∧ RtA K H' vs (.str x :: ds.take i) ∧ Adv p H H' ∧ LnS K p wl num ws (k + 1 + (wordsA (ds.take i)).length) H') ⟨q0, [.str x], none, rfl, .inl (.inl upd_same), .cons (.str _) .nil, a1.trans (Adv.of sm0), l1.ext sm0⟩ (fun i σ' H' _ _ => sf _) ?_ ?_
  · rintro i x' σ' H2 hx' ⟨fb, vs, y, rfl, hsq, hrt, ad, ln⟩
    rw [List.getElem?_map] at hx'
    obtain ⟨fm, hfm, rfl⟩ := Option.map_eq_some_iff.1 hx'
    obtain ⟨hil, _⟩ := List.getElem?_eq_some_iff.1 hfm
    have hdi : ds[i]? = some ds[i] := List.getElem?_eq_getElem (by omega)
    generalize ds[i] = d at hdi
    have e3 := wordsA_more hdi
    have e4 : (wordsA (ds.take (i + 1))).length = (wordsA (ds.take i)).length + (wordsD d).length := by rw [← e3, List.length_append]
    have e2 : wordsA ds = wordsA (ds.take (i + 1)) ++ wordsA (ds.drop (i + 1)) := by rw [← wordsA_app, List.take_append_drop]
    have e6 : ds.take (i + 1) = ds.take i ++ [d] := by rw [List.take_add_one, hdi]; rfl
    have hdr : ws.drop (k + 1 + (wordsA (ds.take i)).length) = wordsD d ++ wordsA (ds.drop (i + 1)) := by
      rw [← List.drop_drop, hd1, e2, ← e3, List.append_assoc, List.drop_left]
    have e5 : (wordsA ds).length = (wordsA (ds.take (i + 1))).length + (wordsA (ds.drop (i + 1))).length := by rw [e2, List.length_append]
    obtain ⟨dx2, g1, g2⟩ := id ln
    refine ⟨_, rfl, _, rfl, p, dx2, _, rfl, g1, rfl, _, rfl, p, wl, num, ws, _, fm, d, _, rfl, ln, hdr, fun z => ?_, by omega, hpt i fm d hfm hdi, fun v H3 a3 l3 r3 => ?_⟩
    · have := long_last hfs hfm z
      rw [List.drop_eq_nil_of_le (by omega)]
      rfl
    · have lv : vs.length ≤ 4 := by
        have := hrt.length
        rw [List.length_cons, List.length_take] at this
        omega
      have hrt3 := RtA.keepT (ln.sqT a3) hrt
      refine ⟨(by show 1 ≤ sizeLine; decide), fun q1 hq1 => ?_⟩
      have sm1 := same_new (o := .tup [v]) hq1
      refine ⟨fb, q1, vs, [v], rfl, rfl, (Kp.of_same sm1).sqT (ln.sqT a3 _ _ hsq), .inl (.inl upd_same), ?_, ?_, (fun z => (nomatch z)), fun _ q2 hq2 => ?_⟩
      · intro z
        rw [z] at hrt
        cases hrt
      · exact Nat.le_trans (by show vs.length + 1 ≤ 5; omega) (by decide)
      have sm2 := same_new (o := .tup (vs ++ [v])) hq2
      have s3 := sm1.trans sm2
      refine ⟨q2, vs ++ [v], _, rfl, .inl (.inl upd_same), ?_, ad.trans (a3.trans (Adv.of s3)), ?_⟩
      · rw [e6, ← List.cons_append]
        exact RtA.snoc (Rt.keep (Kp.of_same s3) r3) (RtA.keep (Kp.of_same s3) hrt3)
      · rw [e4, ← Nat.add_assoc]
        exact l3.ext s3
  · rintro σ' H2 ⟨fb, vs, y, rfl, hsq, hrt, ad, ln⟩
    rw [List.length_map, ← hlen, List.take_length] at hrt ln
    rw [← e1] at ln
    exact ⟨_, rfl, q _ _ ad ln (.tup hsq hrt)⟩
end
end Q47
set_option maxHeartbeats 4000000
/-! ### the lines of a text -/
namespace Q47
open PySem L2
open PySem.W (Frag)
open PyProof.Rows (envOfC)
/-! every row reads back -/
section
variable {Tk : List Str → PyData → Prop} {Pt : Str → PyData → Prop} {os : List Str} {x f1 f2 f3 : Str} {d1 d2 d3 : PyData}
theorem tk1 (hx : x ∈ os) (ht : (x, [f1]) ∈ fmTab) (h1 : Pt f1 d1) : TkOk Pt os (.tuple [.str x, d1]) := ⟨x, [d1], [f1], rfl, hx, ht, rfl, fun i f e hf he => by
  match i, hf, he with
  | 0, hf, he => cases hf; cases he; exact h1
  | n + 1, hf, he => simp at hf⟩
theorem tk2 (hx : x ∈ os) (ht : (x, [f1, f2]) ∈ fmTab) (h1 : Pt f1 d1) (h2 : Pt f2 d2) : TkOk Pt os (.tuple [.str x, d1, d2]) := ⟨x, [d1, d2], [f1, f2], rfl, hx, ht, rfl, fun i f e hf he => by
  match i, hf, he with
  | 0, hf, he => cases hf; cases he; exact h1
  | 1, hf, he => cases hf; cases he; exact h2
  | n + 2, hf, he => simp at hf⟩
theorem tk3 (hx : x ∈ os) (ht : (x, [f1, f2, f3]) ∈ fmTab) (h1 : Pt f1 d1) (h2 : Pt f2 d2) (h3 : Pt f3 d3) : TkOk Pt os (.tuple [.str x, d1, d2, d3]) := ⟨x, [d1, d2, d3], [f1, f2, f3], rfl, hx, ht, rfl, fun i f e hf he => by
  match i, hf, he with
  | 0, hf, he => cases hf; cases he; exact h1
  | 1, hf, he => cases hf; cases he; exact h2
  | 2, hf, he => cases hf; cases he; exact h3
  | n + 3, hf, he => simp at hf⟩
theorem pt_n {m : Nat} (h : m < 10) : PtOk Tk "number" (.int (m : Int)) := .inl ⟨rfl, m, rfl, h⟩
theorem pt_i {i : It} (h : i.n < 10) : PtOk Tk "item" i.e := .inr (.inl ⟨rfl, i, rfl, h⟩)
theorem pt_p {p : Pl} (hg : p ≠ .gone) (h : p.n < 10) : PtOk Tk "place" p.e := .inr (.inr (.inl ⟨rfl, p, rfl, hg, h⟩))
end
section
variable {X : Cx} {p pos : Pos} {e : Expr} {es : List Expr} {t : TA} {k : Nat} {ps : List Str} {sp : Sp}
theorem pe_mkOK (K : Frag) {c : Str} (M : Mk K (He.ga K c) (He.fAd K (c, some "__init__"))) (F : Ok X.prog X.w K X.mg X.base k (c, some "__init__") ps sp) (hr : Room (k + 1) X.A) (hm : X.mg c = some (.ref (He.ga K c))) (ha : PA X (e :: es) t) (hK : X.K = K := by rfl) (hg : Gl X c := by rfl)
    (hdb : (c == ("__debug__" : Str)) = false := by decide) (he : starEach (e :: es) X.env = (false, eval e X.env) :: starEach es X.env := by rfl) (hpl : (backTo pos (starEach es X.env)).any (·.1) = false := by rfl) : PE X (.Call (.Name c p) (e :: es) [] pos) (tMake (He.ga K c) sp [] E0 t) := by
  subst hK
  exact pe_mkO M F hr hm ha hg hdb he hpl
end
theorem lc_enum {K : Frag} {a : Addr} {xs : List V} {g : TG} {tt : TT} {te : TE} {vs : List Nat} {σ : St} {H1 : Hp} {D : Addr} {Qd : Hp → Prop} (Pv : Nat → Hp → Prop) (h0 : Pv 0 (upd H1 D (.lst []))) (hl : ∀ i H, i ≤ xs.length → Pv i H → SqL K H a xs)
    (hs : ∀ i x H T, xs[i]? = some x → Pv i H → H T = none → g (.ref T) (wipe σ vs) (upd H T (.tup [.int (i : Nat), x])) fun σ2 H2 => wipe σ2 vs = wipe σ vs ∧ tt σ2 H2 fun b H3 =>
      if b = true then te σ2 H3 fun y H4 => ∃ acc, H4 D = some (.lst acc) ∧ acc.length < sizeLine ∧ Pv (i + 1) (upd H4 D (.lst (acc ++ [y]))) else Pv (i + 1) H3) (hd : ∀ H, Pv xs.length H → Qd H) :
    ∃ W : Nat → Nat → Hp → Prop, (∃ m, W 0 m (upd H1 D (.lst []))) ∧ ∀ i m H, W i m H →
      ((Ite K a).stop i H ∧ Qd H) ∨ ((Ite K a).go i H ∧ ∃ Nx : Hp → Prop, (∀ H', Nx H' → ∃ m', m' < m ∧ W (i + 1) m' H') ∧ ∀ x H', (Ite K a).yld i H x H' → g x (wipe σ vs) H' fun σ2 H2 => wipe σ2 vs = wipe σ vs ∧ tt σ2 H2 fun b H3 =>
        if b = true then te σ2 H3 fun y H4 => ∃ acc, H4 D = some (.lst acc) ∧ acc.length < sizeLine ∧ Nx (upd H4 D (.lst (acc ++ [y]))) else Nx H3) := by
  refine ⟨fun i m H => m = xs.length - i ∧ i ≤ xs.length ∧ Pv i H, ⟨xs.length, by simp, Nat.zero_le _, h0⟩, ?_⟩
  rintro i m H ⟨rfl, hi, p⟩
  have q := hl i H hi p
  by_cases hlt : i < xs.length
  · refine .inr ⟨⟨xs, xs[i], q, by simp [hlt]⟩, Pv (i + 1), fun H' p' => ⟨xs.length - (i + 1), by omega, rfl, hlt, p'⟩, fun x H' y => ?_⟩
    obtain ⟨T, z, rfl, hT, rfl, y⟩ := y
    exact hs i z _ T (y xs q) p hT
  · have e : i = xs.length := by omega
    subst e
    exact .inl ⟨⟨xs, q, Nat.le_refl _⟩, hd H p⟩
abbrev Tk0 : List Str → PyData → Prop := TkOk (PtOk (fun _ _ => False))
abbrev Tk1 : List Str → PyData → Prop := TkOk (PtOk Tk0)
theorem tk_sg {Tk : List Str → PyData → Prop} {os : List Str} {h : Hs} {g : Sg} (ho : ∀ x ∈ (["at", "bare", "in", "gone"] : List Str), x ∈ os) (hh : HsOk h) (hg : SgOk h g) : TkOk (PtOk Tk) os g.e := by
  have h3 := hh.h3
  have b2 := hh.b2
  have s3 := hh.s3
  cases g with
  | at_ i p =>
    have hp : p ≠ .gone := fun z => by
      rw [z] at hg
      exact hg.2
    exact tk2 (f1 := "item") (f2 := "place") (ho _ (by decide +kernel)) (by decide +kernel) (pt_i (it_small hh hg.1)) (pt_p hp (pl_small hh hg.2))
  | bare b => exact tk1 (f1 := "number") (ho _ (by decide +kernel)) (by decide +kernel) (pt_n (by have q : b < h.boxes.length := hg; omega))
  | inn b is =>
    refine tk2 (f1 := "number") (f2 := "items") (ho _ (by decide +kernel)) (by decide +kernel) (pt_n (by have := hg.1; omega)) (.inr (.inr (.inr (.inl ⟨.inl rfl, _, rfl, ?_, ?_⟩))))
    · rw [List.length_map]
      have := hg.2.2.2
      omega
    · intro e he
      obtain ⟨i, hi, rfl⟩ := List.mem_map.1 he
      exact .inl ⟨rfl, i, rfl, it_small hh (hg.2.1 i hi).1⟩
  | gone s => exact tk1 (f1 := "number") (ho _ (by decide +kernel)) (by decide +kernel) (pt_n (by have q : s < h.seals.length := hg; omega))
theorem tk_rw {h : Hs} {r : Rw} (hh : HsOk h) (hr : RwOk h r) : Tk1 ["give", "put", "take", "seal", "break", "at", "bare", "in", "gone", "not", "gap"] r.e := by
  have h3 := hh.h3
  have b2 := hh.b2
  have s3 := hh.s3
  cases r with
  | deed d =>
    have hd : DdOk h d := hr
    cases d with
    | give x i o => exact tk3 (f1 := "number") (f2 := "item") (f3 := "number") (by decide +kernel) (by decide +kernel) (pt_n (by have := hd.1; omega)) (pt_i (it_small hh hd.2.1)) (pt_n (by have := hd.2.2.1; omega))
    | put x i b => exact tk3 (f1 := "number") (f2 := "item") (f3 := "number") (by decide +kernel) (by decide +kernel) (pt_n (by have := hd.1; omega)) (pt_i (it_small hh hd.2.1)) (pt_n (by have := hd.2.2.2.1; omega))
    | take x i b => exact tk3 (f1 := "number") (f2 := "item") (f3 := "number") (by decide +kernel) (by decide +kernel) (pt_n (by have := hd.1; omega)) (pt_i (it_small hh hd.2.1)) (pt_n (by have := hd.2.2.2.1; omega))
    | sl x b s => exact tk3 (f1 := "number") (f2 := "number") (f3 := "number") (by decide +kernel) (by decide +kernel) (pt_n (by have := hd.1; omega)) (pt_n (by have := hd.2.1; omega)) (pt_n (by have := hd.2.2; omega))
    | brk x b => exact tk2 (f1 := "number") (f2 := "number") (by decide +kernel) (by decide +kernel) (pt_n (by have := hd.1; omega)) (pt_n (by have := hd.2; omega))
  | sight g => exact tk_sg (by decide +kernel) hh hr
  | nots g => exact tk1 (f1 := "sight") (by decide +kernel) (by decide +kernel) (.inr (.inr (.inr (.inr ⟨rfl, tk_sg (fun _ z => z) hh hr⟩))))
  | gap hs =>
    refine tk1 (f1 := "numbers") (by decide +kernel) (by decide +kernel) (.inr (.inr (.inr (.inl ⟨.inr rfl, _, rfl, ?_, ?_⟩))))
    · rw [List.length_map]
      have := hr.2.2
      omega
    · intro e he
      obtain ⟨x, hx, rfl⟩ := List.mem_map.1 he
      exact .inr ⟨rfl, x, rfl, by have := hr.1 x hx; omega⟩
section
variable {P : Program} {w : World} {K : Frag} {mg : Str → Option Value} {base : Heap}
theorem ok_tr (T : Tx K mg) (T3 : Tx3 w K) : Ok P w K mg base 9 ("Line", some "take_row") ["self", "words"] (spRw Tk1 K) := ok_rw T T3 5 _ (ok_pt T 2 _ (ok_rw T T3 3 _ (ok_pt T 0 _ (ok_rwF T 4))))
abbrev s_lines_of : Stmt := topS 58
abbrev N_lines_of : List Str := ["text", "number", "row"]
theorem sc_lines_of : FnScope N_lines_of ["text"] (defScope s_lines_of) := ⟨rfl, rfl, rfl, by decide +kernel, rfl, by decide +kernel, by decide +kernel⟩
/-- line after line, those from n on not begun; H0: what stood before -/
def Lns (K : Frag) (H0 : Hp) (a : Addr) (wss : List (List Str)) (pw : List (Addr × Addr)) (n : Nat) (H : Hp) : Prop := Same H0 H ∧ H a = some (.lst (pw.map fun x => .ref x.1)) ∧ pw.length = wss.length ∧ (∀ x ∈ pw, H0 x.1 = none) ∧ ∀ (i : Nat) (x : Addr × Addr) (ws : List Str), n ≤ i → pw[i]? = some x → wss[i]? = some ws → LnS K x.1 x.2 (i : Int) ws 0 H
def spLO (K : Frag) : Sp := fun vs H Q _ => ∃ (x : Str) (rs : List Str) (wss : List (List Str)), vs = [.str x] ∧ Txt.split x "\n" = rs ∧ rs.map (fun r => Txt.split r " ") = wss ∧ x.length ≤ 100000 ∧ rs.length ≤ 100 ∧ (∀ r ∈ rs, r.length ≤ 200) ∧ ∀ a pw H', H a = none → Lns K H a wss pw 0 H' → Q (.ref a) H'
theorem ok_lo (T : Tx K mg) : Ok P w K mg base 3 ("lines_of", none) ["text"] (spLO K) := by
  have f_Line___init__ : Ok P w K mg base 1 ("Line", some "__init__") ["self", "number", "words"] (spLine K) := ok_Line T
  refine okH T.d_lines_of sc_lines_of (fun _ _ _ _ _ _ us hl => match us, hl with | [_], _ => rfl) (fun vs H Q E ⟨_, _, _, e, _⟩ => by rw [e]; rfl) fun f cdv Ar outer s H E hr vs Q ⟨x, rs, wss, e, hs, hw, b1, b2, b3, q⟩ => ?_
  subst e
  refine ⟨_, (pss_one (ps_ret (pe_lc (own := [("number", 1), ("row", 2)]) rfl sc_lines_of.nd (pi_enumK K rfl T.b_enumerate (pa_cons (pe_split (pv 0) pe_str) pa_nil)) (blkOk_by (own := [("number", 1), ("row", 2)]) (N := N_lines_of) (sc := defScope s_lines_of) (by decide +kernel)) (fun _ _ _ _ _ => (pg_tupK (n := 2) K rfl (pgs_cons (pg_name (i := 1) sc_lines_of.nd rfl (Or.inl rfl)) (pgs_cons (pg_name (i := 2) sc_lines_of.nd rfl (Or.inl rfl)) pgs_nil)))) (fun _ _ _ _ _ => pts_nil) (fun _ _ _ _ _ => (pe_mkOK K T.m_Line f_Line___init__ (hr.mono (by decide)) T.g_Line (pa_cons (pv 1) (pa_cons (pe_split (pv 2) pe_str) pa_nil))))))), ?_⟩
  refine ⟨_, rfl, ⟨x, rfl⟩, x, "\n", rfl, rfl, by decide +kernel, ?_, fun a0 ha0 => ?_⟩
  · exact Nat.le_trans (Nat.add_le_add_right b1 2) (by decide)
  rw [hs]
  have sm0 := same_new (o := .lst (rs.map V.str)) ha0
  refine ⟨a0, rs.map V.str, rfl, SqL.of upd_same, fun D hD => ?_⟩
  have hD0 : H D = none := by
    cases e : H D with
    | none => rfl
    | some o => rw [sm0 _ _ e] at hD; cases hD
  have nD : a0 ≠ D := fun z => by rw [← z, upd_same] at hD; cases hD
  refine lc_enum (K := K) (xs := rs.map V.str) (fun i H' => Same H H' ∧ H' a0 = some (.lst (rs.map V.str)) ∧ ∃ pw : List (Addr × Addr), H' D = some (.lst (pw.map fun x => .ref x.1)) ∧ pw.length = i ∧ (∀ x ∈ pw, H x.1 = none) ∧ ∀ (j : Nat) (x : Addr × Addr) (ws : List Str), pw[j]? = some x → wss[j]? = some ws → x.2 ≠ D ∧ LnS K x.1 x.2 (j : Int) ws 0 H') ⟨fun a o z => ?_, ?_, [], upd_same, rfl, (fun _ z => nomatch z), (fun j x ws z => by simp at z)⟩ (fun i H' _ h => SqL.of h.2.1) ?_ ?_
  · have : a ≠ D := fun y => by rw [y, hD0] at z; cases z
    rw [upd_ne this]
    exact sm0 a o z
  · rw [upd_ne nD]
    exact upd_same
  · rintro i x' Ha T hx' ⟨sm, h0, pw, hls, hln, hl0, hlj⟩ hT
    rw [List.getElem?_map] at hx'
    obtain ⟨r, hr0, rfl⟩ := Option.map_eq_some_iff.1 hx'
    have br := b3 r (List.mem_of_getElem? hr0)
    have smT := same_new (o := .tup [V.int (i : Nat), .str r]) hT
    refine ⟨T, _, rfl, .inl (.inl upd_same), rfl, ?_⟩
    refine ⟨_, _, rfl, _, _, rfl, rfl, rfl, ?_⟩
    refine ⟨_, rfl, _, rfl, ⟨r, rfl⟩, r, " ", rfl, rfl, by decide +kernel, ?_, fun wl hwl => ?_⟩
    · exact Nat.le_trans (Nat.add_le_add_right br 2) (by decide)
    have smW := same_new (o := .lst ((Txt.split r " ").map V.str)) hwl
    intro p dx hp hdx hne
    have hpd : upd (upd (upd Ha T (.tup [.int (i : Nat), .str r])) wl (.lst ((Txt.split r " ").map V.str))) dx (.own p) p = none := by
      rw [upd_ne (Ne.symm hne)]
      exact hp
    refine ⟨p, dx, (i : Int), wl, rfl, upd_same, rfl, ?_⟩
    rw [upd_upd]
    have s1 := (smT.trans smW).trans (same_new (o := .own p) hdx)
    have s2 := s1.trans (same_new (o := .ins (He.ga K "Line") dx [("number", .int (i : Int)), ("words", .ref wl), ("at", .int 0)]) hpd)
    have fp : Ha p = none := by
      cases e : Ha p with
      | none => rfl
      | some o => rw [s1 _ _ e] at hpd; cases hpd
    have fw : Ha wl = none := by
      cases e : Ha wl with
      | none => rfl
      | some o => rw [smT _ _ e] at hwl; cases hwl
    have Hp0 : H p = none := by
      cases e : H p with
      | none => rfl
      | some o => rw [sm _ _ e] at fp; cases fp
    have npD : p ≠ D := fun z => by rw [z, hls] at fp; cases fp
    have nwD : wl ≠ D := fun z => by rw [z, hls] at fw; cases fw
    have nwp : wl ≠ p := fun z => by rw [← z, upd_same] at hp; cases hp
    have nwx : wl ≠ dx := fun z => by rw [← z, upd_same] at hdx; cases hdx
    refine ⟨_, s2 _ _ hls, by rw [List.length_map, hln]; exact Nat.lt_of_lt_of_le (List.getElem?_eq_some_iff.1 hr0).1 (Nat.le_trans b2 (by decide)), fun a o z => ?_, ?_, pw ++ [(p, wl)], by rw [upd_same, List.map_append]; rfl, by rw [List.length_append, hln]; rfl, fun x hx => ?_, fun j x ws hj hws => ?_⟩
    · rw [upd_ne (fun y => by rw [y, hD0] at z; cases z)]
      exact s2 _ _ (sm _ _ z)
    · rw [upd_ne nD]
      exact s2 _ _ h0
    · rcases List.mem_append.1 hx with hx | hx
      · exact hl0 x hx
      · rw [List.mem_singleton.1 hx]
        exact Hp0
    · rcases Nat.lt_or_ge j i with hlt | hge
      · rw [List.getElem?_append_left (by omega)] at hj
        obtain ⟨g3, dx1, g4, g5⟩ := hlj j x ws hj hws
        refine ⟨g3, dx1, ?_, ?_⟩
        · rw [upd_ne (fun y => by rw [y, hls] at g4; cases g4)]
          exact s2 _ _ g4
        · rw [upd_ne g3]
          exact s2 _ _ g5
      · have ej : j = i := by
          have := (List.getElem?_eq_some_iff.1 hj).1
          rw [List.length_append, hln] at this
          have z : [(p, wl)].length = 1 := rfl
          omega
        subst ej
        have ex : x = (p, wl) := by
          rw [List.getElem?_append_right (by omega), hln, Nat.sub_self] at hj
          exact (Option.some.inj hj).symm
        subst ex
        have ew : ws = Txt.split r " " := by
          rw [← hw, List.getElem?_map, hr0] at hws
          exact (Option.some.inj hws).symm
        subst ew
        refine ⟨nwD, dx, ?_, ?_⟩
        · rw [upd_ne npD, upd_same]
          rfl
        · rw [upd_ne nwD, upd_ne nwp, upd_ne nwx, upd_same]
  · rintro H' ⟨sm, h0, pw, hls, hln, hl0, hlj⟩
    rw [List.length_map] at hln
    refine q D pw H' hD0 ⟨sm, hls, ?_, hl0, fun i x ws _ hi hw => (hlj i x ws hi hw).2⟩
    rw [hln, ← hw, List.length_map]
end
end Q47
set_option maxHeartbeats 4000000
/-! ### read_row, read_house -/
namespace Q47
open PySem L2
open PySem.W (Frag)
open PyProof.Rows (envOfC)
def rIndexT (K : Frag) : V → List V → Hp → VK → Prop := fun x xs H Q => ∃ p, ∃ ys : List Str, ∃ z j, x = .ref p ∧ xs = [.str z] ∧ SqT K H p (ys.map V.str) ∧ ys[j]? = some z ∧ (∀ m, m < j → ys[m]? ≠ some z) ∧ Q (.int (j : Nat)) H
theorem mt_indexT (K : Frag) {X : Cx} (hK : X.K = K := by rfl) : MtR X "tuple.index" (rIndexT K) := by
  subst hK
  exact mt_tup_index
theorem Lns.get {K : Frag} {H0 H : Hp} {a : Addr} {wss : List (List Str)} {pw : List (Addr × Addr)} {n i : Nat} {ws : List Str} (l : Lns K H0 a wss pw n H) (hn : n ≤ i) (hw : wss[i]? = some ws) : ∃ x, pw[i]? = some x ∧ SqL K H a (pw.map fun x => V.ref x.1) ∧ atI (pw.map fun x => V.ref x.1) (i : Int) = some (.ref x.1) ∧ LnS K x.1 x.2 (i : Int) ws 0 H := by
  obtain ⟨_, h1, h2, _, h3⟩ := l
  have hi := (List.getElem?_eq_some_iff.1 hw).1
  have e : pw[i]? = some pw[i] := List.getElem?_eq_getElem (by omega)
  exact ⟨_, e, SqL.of h1, atI_nat (by rw [List.getElem?_map, e]; rfl), h3 i _ ws hn e hw⟩
theorem LnS.num_ne {K : Frag} {p q wl wl' : Addr} {i j : Int} {ws ws' : List Str} {k k' : Nat} {H : Hp} (h : LnS K p wl i ws k H) (g : LnS K q wl' j ws' k' H) (hij : i ≠ j) : p ≠ q := fun z => by
  obtain ⟨dx, h1, _⟩ := h
  obtain ⟨dx', g1, _⟩ := g
  rw [z, g1] at h1
  injection h1 with h1
  injection h1 with _ _ h1
  injection h1 with h1 _
  injection h1 with _ h1
  injection h1 with h1
  exact hij h1.symm
theorem LnS.adv {K : Frag} {p q wl wl' : Addr} {i j : Int} {ws ws' : List Str} {k k' : Nat} {H H' : Hp} (h : LnS K p wl i ws k H) (g : LnS K q wl' j ws' k' H) (hij : i ≠ j) (a : Adv q H H') : LnS K p wl i ws k H' := by
  have n1 := h.num_ne g hij
  obtain ⟨dx, h1, h2⟩ := h
  obtain ⟨dx', g1, g2⟩ := g
  exact ⟨dx, a _ _ n1 h1, a _ _ (fun z => by rw [z, g1] at h2; cases h2) h2⟩
/-- line n is read -/
theorem Lns.adv {K : Frag} {H0 H H' : Hp} {a : Addr} {wss : List (List Str)} {pw : List (Addr × Addr)} {n : Nat} {ws : List Str} {x : Addr × Addr} (l : Lns K H0 a wss pw n H) (hx : pw[n]? = some x) (hw : wss[n]? = some ws) (ad : Adv x.1 H H') : Lns K H0 a wss pw (n + 1) H' := by
  obtain ⟨h0, h1, h2, h4, h3⟩ := l
  have g := h3 n x ws (Nat.le_refl _) hx hw
  obtain ⟨dx, g1, g2⟩ := id g
  have f := h4 x (List.mem_of_getElem? hx)
  refine ⟨fun b o z => ad b o (fun y => by rw [y, f] at z; cases z) (h0 b o z), ad _ _ (fun y => by rw [y, g1] at h1; cases h1) h1, h2, h4, fun i y vs hi hy hv => ?_⟩
  exact (h3 i y vs (by omega) hy hv).adv g (by omega) ad
/-- a list elsewhere changes -/
theorem LnS.but {K : Frag} {p wl q : Addr} {i : Int} {ws : List Str} {k : Nat} {H H' : Hp} {xs : List V} (h : LnS K p wl i ws k H) (hq : H q = some (.lst xs)) (hw : wl ≠ q) (e : ∀ b o, b ≠ q → H b = some o → H' b = some o) : LnS K p wl i ws k H' := by
  obtain ⟨dx, h1, h2⟩ := h
  exact ⟨dx, e _ _ (fun z => by rw [z, hq] at h1; cases h1) h1, e _ _ hw h2⟩
theorem Lns.but {K : Frag} {H0 H H' : Hp} {a q : Addr} {wss : List (List Str)} {pw : List (Addr × Addr)} {n : Nat} {xs : List V} (l : Lns K H0 a wss pw n H) (hq : H q = some (.lst xs)) (h0 : H0 q = none) (ha : a ≠ q) (hw : ∀ x ∈ pw, x.2 ≠ q) (e : ∀ b o, b ≠ q → H b = some o → H' b = some o) : Lns K H0 a wss pw n H' := by
  obtain ⟨g0, h1, h2, h4, h3⟩ := l
  exact ⟨fun b o z => e b o (fun y => by rw [y, h0] at z; cases z) (g0 b o z), e _ _ ha h1, h2, h4, fun i x ws hi hx hv => (h3 i x ws hi hx hv).but hq (hw x (List.mem_of_getElem? hx)) e⟩
theorem Lns.ext {K : Frag} {H0 H H' : Hp} {a : Addr} {wss : List (List Str)} {pw : List (Addr × Addr)} {n : Nat} (l : Lns K H0 a wss pw n H) (e : Same H H') : Lns K H0 a wss pw n H' := by
  obtain ⟨g0, h1, h2, h4, h3⟩ := l
  exact ⟨g0.trans e, e _ _ h1, h2, h4, fun i x ws hi hx hv => (h3 i x ws hi hx hv).ext e⟩
/-! parts of a house -/
def partW : Nat → Str
  | 0 => "box"
  | 1 => "thing"
  | 2 => "seal"
  | _ => "log"
abbrev PTS : List Str := ["box", "thing", "seal", "log"]
theorem part_ix : ∀ c, c < 4 → PTS[c]? = some (partW c) ∧ ∀ m, m < c → PTS[m]? ≠ some (partW c) := by decide +kernel
theorem part_mem : ∀ c, c < 4 → ∀ k, k < c + 1 → partW c ∈ PTS.drop k := by decide +kernel
theorem part_cut : ∀ k, k < 4 → cutD (PTS.map PyData.str) (some ((k : Nat) : Int)) none = (PTS.drop k).map PyData.str := by
  intro k hk
  match k, hk with
  | 0, _ => rfl
  | 1, _ => rfl
  | 2, _ => rfl
  | 3, _ => rfl
theorem sl_use {K : Frag} {v : V} {H : Hp} {Q : VK} {ds : List PyData} {lo hi : Option Int} (hv : Rt K H v (.tuple ds)) (q : ∀ v H', Same H H' → Rt K H' v (.tuple (cutD ds lo hi)) → Q v H') : rSlAK K v lo hi H Q :=
  slA (K := K) (W := W0.at H) (σ := []) (κ := fun a => a = .d (.tuple (cutD ds lo hi))) at_S hv (fun v H' a ro _ ha e => by
    subst e
    exact q v H' (fun a o z => ro a o (fun y => y) z) ha) rfl
section
variable {P : Program} {w : World} {K : Frag} {mg : Str → Option Value} {base : Heap}
abbrev s_read_row : Stmt := topS 60
abbrev N_read_row : List Str := ["line", "words", "found"]
theorem sc_read_row : FnScope N_read_row ["line", "words"] (defScope s_read_row) := ⟨rfl, rfl, rfl, by decide +kernel, rfl, by decide +kernel, by decide +kernel⟩
def spRR (K : Frag) : Sp := fun vs H Q _ => ∃ (p wl : Addr) (num : Int) (ws : List Str) (t : V) (os : List Str) (d : PyData), vs = [.ref p, t] ∧ LnS K p wl num ws 0 H ∧ Rt K H t (.tuple (os.map PyData.str)) ∧ ws = wordsD d ∧ Tk1 os d ∧ LnQ K p wl num ws ws.length d H Q
theorem ok_rr (T : Tx K mg) (T3 : Tx3 w K) : Ok P w K mg base 10 ("read_row", none) ["line", "words"] (spRR K) := by
  have f_Line_take_row : Ok P w K mg base 9 ("Line", some "take_row") ["self", "words"] (spRw Tk1 K) := ok_tr T T3
  have f_Line_end : Ok P w K mg base 2 ("Line", some "end") ["self"] (spEnd K) := ok_end T
  refine okH T.d_read_row sc_read_row (fun _ _ _ _ _ _ us hl => match us, hl with | [_, _], _ => rfl) (fun vs H Q E ⟨_, _, _, _, _, _, _, e, _⟩ => by rw [e]; rfl) fun f cdv Ar outer s H E hr vs Q ⟨p, wl, num, ws, t, os, d, e, l, ht, hw, hk, q⟩ => ?_
  subst e
  refine ⟨_, (pss_cons (ps_set (i := 2) sc_read_row.nd rfl (Or.inl rfl) (pe_cm f_Line_take_row (hr.mono (by decide)) T.c_Line T.m_Line_take_row (pv 0) (pa_cons (pv 1) pa_nil)))
      (pss_cons (ps_expr (pe_cm0 f_Line_end (hr.mono (by decide)) T.c_Line T.m_Line_end (pv 0)))
      (pss_one (ps_ret (pv 2))))), ?_⟩
  obtain ⟨dx, h1, h2⟩ := id l
  refine ⟨_, rfl, p, dx, _, rfl, h1, rfl, _, rfl, p, wl, num, ws, 0, t, os, d, rfl, l, ht, hw, Nat.zero_le _, hk, fun v H1 a1 l1 r1 => ?_⟩
  obtain ⟨dx1, g1, g2⟩ := id l1
  refine ⟨_, rfl, p, dx1, _, rfl, g1, rfl, p, wl, num, ws, _, rfl, l1, Nat.le_refl _, ?_⟩
  exact ⟨_, rfl, q _ _ a1 l1 r1⟩
theorem Lns.words {K : Frag} {H0 H : Hp} {a : Addr} {wss : List (List Str)} {pw : List (Addr × Addr)} (l : Lns K H0 a wss pw 0 H) : ∀ x ∈ pw, ∃ ys, H x.2 = some (.lst ys) := fun x hx => by
  obtain ⟨_, h1, h2, _, h3⟩ := l
  obtain ⟨i, hi, e⟩ := List.mem_iff_getElem.1 hx
  obtain ⟨_, _, g⟩ := h3 i x wss[i] (Nat.zero_le _) (by rw [← e]; exact List.getElem?_eq_getElem hi) (List.getElem?_eq_getElem (by omega))
  exact ⟨_, g⟩
def dKv (l0 l1 l2 : Addr) : List (Key × V) := mergeK [] [(.inr "box", .ref l0), (.inr "thing", .ref l1), (.inr "seal", .ref l2)]
def L3 (l0 l1 l2 : Addr) : Nat → Addr
  | 0 => l0
  | 1 => l1
  | _ => l2
theorem dKv_get (l0 l1 l2 : Addr) : ∀ c, c < 3 → valV (dKv l0 l1 l2) (.inr (partW c)) = some (.ref (L3 l0 l1 l2 c))
  | 0, _ => by rfl
  | 1, _ => by rfl
  | 2, _ => by rfl
theorem part_nl : ∀ c, c < 3 → partW c ≠ "log" := by decide +kernel
abbrev s_read_house : Stmt := topS 59
abbrev N_read_house : List Str := ["lines", "hands", "places", "ahead", "number", "word"]
theorem sc_read_house : FnScope N_read_house ["lines"] (defScope s_read_house) := ⟨rfl, rfl, rfl, by decide +kernel, rfl, by decide +kernel, by decide +kernel⟩
abbrev All := List (Nat × Pl)
def selE (c : Nat) (l : All) : List PyData := (l.filter fun e => e.1 == c).map fun e => e.2.e
def lineW (e : Nat × Pl) : List Str := [partW e.1, e.2.w, Str.ofString (toString (e.2.n : Int))]
/-- the lines of a house, up to its log -/
structure HLines (hands : Nat) (all : All) (wss : List (List Str)) : Prop where
  hd : wss[0]? = some (["hands", Str.ofString (toString (hands : Int))] : List Str)
  hn : hands < 10
  at_ : ∀ (i : Nat) e, all[i]? = some e → wss[i + 1]? = some (lineW e)
  log : wss[all.length + 1]? = some (["log"] : List Str)
  few : all.length ≤ 20
  wfew : wss.length ≤ 100
  ok : ∀ e ∈ all, e.1 < 3 ∧ e.2 ≠ .gone ∧ e.2.n < 10
  up : ∀ (i j : Nat) e f, i ≤ j → all[i]? = some e → all[j]? = some f → e.1 ≤ f.1
theorem selE_snoc {c : Nat} {l : All} {e : Nat × Pl} (h : e.1 = c) : selE c (l ++ [e]) = selE c l ++ [e.2.e] := by
  unfold selE
  rw [List.filter_append, List.map_append]
  simp [h]
theorem selE_other {c : Nat} {l : All} {e : Nat × Pl} (h : e.1 ≠ c) : selE c (l ++ [e]) = selE c l := by
  unfold selE
  rw [List.filter_append, List.map_append]
  simp [h]
theorem selE_len {c : Nat} {l : All} : (selE c l).length ≤ l.length := by
  unfold selE
  rw [List.length_map]
  exact List.length_filter_le _ _
def spRH (K : Frag) : Sp := fun vs H Q _ => ∃ (H0 : Hp) (a : Addr) (wss : List (List Str)) (pw : List (Addr × Addr)) (hands : Nat) (all : All), vs = [.ref a] ∧ Lns K H0 a wss pw 0 H ∧ HLines hands all wss ∧
  ∀ v H', Lns K H0 a wss pw (all.length + 2) H' → Rt K H' v (.tuple [.tuple [.int (hands : Int), .tuple (selE 0 all), .tuple (selE 1 all), .tuple (selE 2 all)], .int ((all.length : Int) + 2)]) → Q v H'
theorem ok_rh (T : Tx K mg) (T3 : Tx3 w K) : Ok P w K mg base 4 ("read_house", none) ["lines"] (spRH K) := by
  have f_Line_take_word : Ok P w K mg base 2 ("Line", some "take_word") ["self", "words"] (spTW K) := ok_tw T
  have f_Line_take_number : Ok P w K mg base 2 ("Line", some "take_number") ["self"] (spTN K) := ok_tn T
  have f_Line_take_pair : Ok P w K mg base 3 ("Line", some "take_pair") ["self", "words"] (spTP K) := ok_tp T
  have f_Line_end : Ok P w K mg base 2 ("Line", some "end") ["self"] (spEnd K) := ok_end T
  refine okH T.d_read_house sc_read_house (fun _ _ _ _ _ _ us hl => match us, hl with | [_], _ => rfl) (fun vs H Q E ⟨_, _, _, _, _, _, e, _⟩ => by rw [e]; rfl) fun f cdv Ar outer s H E hr vs Q ⟨H0, a, wss, pw, hands, all, e, l, hl, q⟩ => ?_
  subst e
  refine ⟨_, (pss_cons (ps_expr (pe_cm f_Line_take_word (hr.mono (by decide)) T.c_Line T.m_Line_take_word (pe_ix (ix_listK K) (pv 0) pe_int (fun _ _ => rfl)) (pa_cons (pe_tup (pa_cons (pe_gS T.s_HANDS) pa_nil)) pa_nil)))
      (pss_cons (ps_set (i := 1) sc_read_house.nd rfl (Or.inl rfl) (pe_cm0 f_Line_take_number (hr.mono (by decide)) T.c_Line T.m_Line_take_number (pe_ix (ix_listK K) (pv 0) pe_int (fun _ _ => rfl))))
      (pss_cons (ps_expr (pe_cm0 f_Line_end (hr.mono (by decide)) T.c_Line T.m_Line_end (pe_ix (ix_listK K) (pv 0) pe_int (fun _ _ => rfl))))
      (pss_cons (ps_par (i := 2) (j := 3) (by rfl) sc_read_house.nd rfl rfl (by decide) rfl rfl (pa_cons (pe_disp (pps_cons (pe_gS T.s_BOX) (pe_lst pa_nil) (pps_cons (pe_gS T.s_THING) (pe_lst pa_nil) (pps_cons (pe_gS T.s_SEAL) (pe_lst pa_nil) pps_nil))) (by rfl) (by rfl) (fun z => by cases z) (by decide)) (pa_cons pe_int pa_nil)) (by rfl))
      (pss_cons (ps_for PassesOwn.never rfl (pi_range2 rfl T.b_range (pa_cons pe_int (pa_cons (pe_callB (call_lenK K) (by rfl) T.b_len (by decide +kernel) (pa_cons (pv 0) pa_nil)) pa_nil))) (pg_name (i := 4) sc_read_house.nd rfl (Or.inl rfl)) (pss_cons (ps_set (i := 5) sc_read_house.nd rfl (Or.inl rfl) (pe_cm f_Line_take_word (hr.mono (by decide)) T.c_Line T.m_Line_take_word (pe_ix (ix_listK K) (pv 0) (pv 4) (fun _ _ => rfl)) (pa_cons (pe_slice (sl_tupAK K) (pe_gR T.g_PARTS) (po_some (pv 3)) po_none) pa_nil)))
      (pss_cons (ps_set (i := 3) sc_read_house.nd rfl (Or.inl rfl) (pe_bmK K PySem.F.plainAttrs_tuple PySem.F.slot_tuple_index PySem.F.type_tuple_index (mt_indexT K) (pe_gR T.g_PARTS) (pa_cons (pv 5) pa_nil)))
      (pss_cons (ps_if (pt_cmpR op_eq (pv 5) (pe_gS T.s_LOG) (nomark _)) (pss_cons (ps_expr (pe_cm0 f_Line_end (hr.mono (by decide)) T.c_Line T.m_Line_end (pe_ix (ix_listK K) (pv 0) (pv 4) (fun _ _ => rfl))))
      (pss_one (ps_ret (pe_tup (pa_cons (pe_tup (pa_cons (pv 1) (pa_cons (pe_callTy (call_tupleK K) (by rfl) T.b_tuple (by decide +kernel) (pa_cons (pe_dget (hu_of hr) (pv 2) (pe_gS T.s_BOX) (fun _ _ => rfl)) pa_nil)) (pa_cons (pe_callTy (call_tupleK K) (by rfl) T.b_tuple (by decide +kernel) (pa_cons (pe_dget (hu_of hr) (pv 2) (pe_gS T.s_THING) (fun _ _ => rfl)) pa_nil)) (pa_cons (pe_callTy (call_tupleK K) (by rfl) T.b_tuple (by decide +kernel) (pa_cons (pe_dget (hu_of hr) (pv 2) (pe_gS T.s_SEAL) (fun _ _ => rfl)) pa_nil)) pa_nil))))) (pa_cons (pe_op op_add (pv 4) pe_int) pa_nil)))))) pss_nil)
      (pss_cons (ps_expr (pe_bmK K PySem.F.plainAttrs_list PySem.F.slot_list_append PySem.F.type_list_append mt_append (pe_dget (hu_of hr) (pv 2) (pv 5) (fun _ _ => rfl)) (pa_cons (pe_cm f_Line_take_pair (hr.mono (by decide)) T.c_Line T.m_Line_take_pair (pe_ix (ix_listK K) (pv 0) (pv 4) (fun _ _ => rfl)) (pa_cons (pe_tup (pa_cons (pe_gS T.s_HAND) (pa_cons (pe_gS T.s_BOX) pa_nil))) pa_nil)) pa_nil)))
      (pss_one (ps_expr (pe_cm0 f_Line_end (hr.mono (by decide)) T.c_Line T.m_Line_end (pe_ix (ix_listK K) (pv 0) (pv 4) (fun _ _ => rfl))))))))))
      (pss_one ps_never)))))), ?_⟩
  obtain ⟨x, hx, sq, ax, ln⟩ := l.get (Nat.le_refl 0) hl.hd
  obtain ⟨dx, h1, h2⟩ := id ln
  refine ⟨_, rfl, a, _, 0, _, rfl, rfl, sq, ax, x.1, dx, _, rfl, h1, rfl, (by show 1 ≤ sizeLine; decide), fun t ht => ?_⟩
  have smt := same_new (o := .tup [V.str "hands"]) ht
  refine ⟨x.1, x.2, _, _, 0, .ref t, ["hands"], "hands", rfl, ln.ext smt, .tup (.inl (.inl upd_same)) (.cons (.str _) .nil), rfl, by decide +kernel, fun v1 H1 a1 l1 r1 => ?_⟩
  have a1 := (Adv.of (p := x.1) smt).trans a1
  obtain ⟨dx1, g1, g2⟩ := id l1
  have sq1 : SqL K H1 a (pw.map fun x => V.ref x.1) := (l.adv hx hl.hd a1).2.1 |> SqL.of
  refine ⟨_, rfl, a, _, 0, _, rfl, rfl, sq1, ax, x.1, dx1, _, rfl, g1, rfl, x.1, x.2, _, _, 1, hands, rfl, l1, rfl, hl.hn, fun v2 H2 a2 l2 r2 => ?_⟩
  cases r2
  have a2 := a1.trans a2
  obtain ⟨dx2, f1, f2⟩ := id l2
  have L2 := l.adv hx hl.hd a2
  refine ⟨_, rfl, a, _, 0, _, rfl, rfl, SqL.of L2.2.1, ax, x.1, dx2, _, rfl, f1, rfl, x.1, x.2, _, _, 2, rfl, l2, Nat.le_refl _, ?_⟩
  intro pd hpd
  refine ⟨Nat.zero_le _, fun l0 hl0 => ⟨Nat.zero_le _, fun l1 hl1 => ⟨Nat.zero_le _, fun l2 hl2 => ?_⟩⟩⟩
  have n0 : l0 ≠ pd := fun z => by rw [z, upd_same] at hl0; cases hl0
  have n1 : l1 ≠ l0 := fun z => by rw [z, upd_same] at hl1; cases hl1
  rw [upd_ne n0] at hl0
  rw [upd_ne n1] at hl1
  have n1' : l1 ≠ pd := fun z => by rw [z, upd_same] at hl1; cases hl1
  rw [upd_ne n1'] at hl1
  have n2 : l2 ≠ l1 := fun z => by rw [z, upd_same] at hl2; cases hl2
  rw [upd_ne n2] at hl2
  have n2' : l2 ≠ l0 := fun z => by rw [z, upd_same] at hl2; cases hl2
  rw [upd_ne n2'] at hl2
  have n2'' : l2 ≠ pd := fun z => by rw [z, upd_same] at hl2; cases hl2
  rw [upd_ne n2''] at hl2
  refine ⟨?_, [(.inr "box", .ref l0), (.inr "thing", .ref l1), (.inr "seal", .ref l2)], rfl, by show 3 ≤ 15; decide, _, _, rfl, ?_⟩
  · rw [upd_ne (Ne.symm n2''), upd_ne (Ne.symm n1'), upd_ne (Ne.symm n0), upd_same]
  have hw2 : ∀ y ∈ pw, ∃ ys, H2 y.2 = some (.lst ys) := fun y hy => by
    obtain ⟨ys, e⟩ := l.words y hy
    exact ⟨ys, a2 _ _ (fun z => by rw [z, h1] at e; cases e) e⟩
  generalize hHf : upd (upd (upd (upd (upd H2 pd (.dK [])) l0 (.lst [])) l1 (.lst [])) l2 (.lst [])) pd (.dK (mergeK [] [(.inr "box", .ref l0), (.inr "thing", .ref l1), (.inr "seal", .ref l2)])) = Hf
  have smf : Same H2 Hf := fun b o z => by
    rw [← hHf, upd_ne (fun y => by rw [y, hpd] at z; cases z), upd_ne (fun y => by rw [y, hl2] at z; cases z), upd_ne (fun y => by rw [y, hl1] at z; cases z), upd_ne (fun y => by rw [y, hl0] at z; cases z), upd_ne (fun y => by rw [y, hpd] at z; cases z)]
    exact z
  have fpd : Hf pd = some (.dK (dKv l0 l1 l2)) := by rw [← hHf, upd_same]; rfl
  have fl : ∀ c, c < 3 → Hf (L3 l0 l1 l2 c) = some (.lst []) := fun c hc => by
    match c, hc with
    | 0, _ => show Hf l0 = _; rw [← hHf, upd_ne n0, upd_ne (Ne.symm n2'), upd_ne (Ne.symm n1), upd_same]
    | 1, _ => show Hf l1 = _; rw [← hHf, upd_ne n1', upd_ne (Ne.symm n2), upd_same]
    | 2, _ => show Hf l2 = _; rw [← hHf, upd_ne n2'', upd_same]
  have nl : ∀ c, c < 3 → H2 (L3 l0 l1 l2 c) = none ∧ L3 l0 l1 l2 c ≠ pd := fun c hc => by
    match c, hc with
    | 0, _ => exact ⟨hl0, n0⟩
    | 1, _ => exact ⟨hl1, n1'⟩
    | 2, _ => exact ⟨hl2, n2''⟩
  have ij : ∀ c d, c < 3 → d < 3 → c ≠ d → L3 l0 l1 l2 c ≠ L3 l0 l1 l2 d := fun c d hc hd hn => by
    match c, d, hc, hd, hn with
    | 0, 1, _, _, _ => exact Ne.symm n1
    | 0, 2, _, _, _ => exact Ne.symm n2'
    | 1, 0, _, _, _ => exact n1
    | 1, 2, _, _, _ => exact Ne.symm n2
    | 2, 0, _, _, _ => exact n2'
    | 2, 1, _, _, _ => exact n2
    | 0, 0, _, _, h => exact absurd rfl h
    | 1, 1, _, _, h => exact absurd rfl h
    | 2, 2, _, _, h => exact absurd rfl h
  have dg := dKv_get l0 l1 l2
  generalize L3 l0 l1 l2 = L at fl nl ij dg
  generalize dKv l0 l1 l2 = kvs at fpd dg
  have Lf := L2.ext smf
  have h0l : ∀ c, c < 3 → H0 (L c) = none := fun c hc => by
    cases e : H0 (L c) with
    | none => rfl
    | some o => have := (nl c hc).1; rw [L2.1 _ _ e] at this; cases this
  have ha : ∀ c, c < 3 → a ≠ L c := fun c hc z => by have := (nl c hc).1; rw [← z, L2.2.1] at this; cases this
  have hwl : ∀ c, c < 3 → ∀ y ∈ pw, y.2 ≠ L c := fun c hc y hy z => by
    obtain ⟨ys, e⟩ := hw2 y hy
    have := (nl c hc).1
    rw [← z, e] at this
    cases this
  clear hHf smf hw2
  have hlen : pw.length = wss.length := L2.2.2.1
  have hlog := (List.getElem?_eq_some_iff.1 hl.log).1
  have wfew := hl.wfew
  refine ⟨_, rfl, a, _, rfl, .inl (SqL.of Lf.2.1), _, _, rfl, ?_, ?_⟩
  · rw [List.length_map, hlen]
    omega
  refine for_range (fun i σ' H' => i ≤ all.length ∧ ∃ (ah : Nat) (y4 y5 : Option V), σ' = [some (.ref a), some (.int (hands : Int)), some (.ref pd), some (.int (ah : Int)), y4, y5] ∧ ah < 4 ∧ (∀ j e, i ≤ j → all[j]? = some e → ah ≤ e.1) ∧ Lns K H0 a wss pw (i + 1) H' ∧ H' pd = some (.dK kvs) ∧ ∀ c, c < 3 → ∃ vs, H' (L c) = some (.lst vs) ∧ RtA K H' vs (selE c (all.take i))) ⟨Nat.zero_le _, 0, none, none, rfl, by decide, fun _ _ _ _ => Nat.zero_le _, Lf, fpd, fun c hc => ⟨[], fl c hc, .nil⟩⟩ ?_ ?_
  rotate_left
  · rintro σ' H' ⟨hle, _⟩
    rw [List.length_map] at hle
    omega
  rintro i σ' H' hi ⟨hil, ah, y4, y5, rfl, hah, hup, ln', hpd', hls⟩
  rw [show (1 : Int) + (i : Int) = ((i + 1 : Nat) : Int) by omega]
  obtain ⟨c, ws, hc4, hw, hw0, hac, hcase⟩ : ∃ (c : Nat) (ws : List Str), c < 4 ∧ wss[i + 1]? = some ws ∧ ws[0]? = some (partW c) ∧ ah ≤ c ∧ ((i = all.length ∧ c = 3 ∧ ws = (["log"] : List Str)) ∨ ∃ e, all[i]? = some e ∧ c = e.1 ∧ ws = lineW e) := by
    rcases Nat.lt_or_ge i all.length with hlt | hge
    · have he : all[i]? = some all[i] := List.getElem?_eq_getElem hlt
      have := (hl.ok _ (List.mem_of_getElem? he)).1
      exact ⟨all[i].1, _, by omega, hl.at_ i _ he, rfl, hup i _ (Nat.le_refl _) he, .inr ⟨_, he, rfl, rfl⟩⟩
    · have e : i = all.length := by omega
      subst e
      exact ⟨3, _, by decide, hl.log, rfl, by omega, .inl ⟨rfl, rfl, rfl⟩⟩
  obtain ⟨x1, hx1, sq1', ax1, l1⟩ := ln'.get (Nat.le_refl _) hw
  obtain ⟨dx1, g1, g2⟩ := id l1
  refine ⟨_, rfl, _, rfl, a, _, _, _, rfl, rfl, sq1', ax1, x1.1, dx1, _, rfl, g1, rfl, _, rfl, _, rfl, ?_⟩
  refine sl_use (ds := PTS.map PyData.str) (.tup (T.t_PARTS _) RtA.strs) fun v H3 sm3 rv => ?_
  rw [part_cut ah hah] at rv
  refine ⟨x1.1, x1.2, _, ws, 0, v, PTS.drop ah, partW c, rfl, l1.ext sm3, rv, hw0, part_mem c hc4 ah (by omega), fun v4 H4 a4 l4 r4 => ?_⟩
  cases r4
  have a4 := (Adv.of (p := x1.1) sm3).trans a4
  refine ⟨.inr (.inl ⟨rfl, T3.parts⟩), _, rfl, _, PTS, partW c, c, rfl, rfl, T.t_PARTS _, (part_ix c hc4).1, (part_ix c hc4).2, ?_⟩
  refine ⟨_, rfl, rfl, _, rfl, ?_⟩
  have L4 := ln'.adv hx1 hw a4
  obtain ⟨dx4, k1, k2⟩ := id l4
  have np4 : pd ≠ x1.1 := fun z => by rw [z, g1] at hpd'; cases hpd'
  have pd4 := a4 _ _ np4 hpd'
  have ls4 : ∀ c, c < 3 → ∃ vs, H4 (L c) = some (.lst vs) ∧ RtA K H4 vs (selE c (all.take i)) := fun c hc => by
    obtain ⟨vs, e1, e2⟩ := hls c hc
    exact ⟨vs, a4 _ _ (fun z => by rw [z, g1] at e1; cases e1) e1, RtA.keepT (l1.sqT a4) e2⟩
  rcases hcase with ⟨rfl, rfl, rfl⟩ | ⟨e, he, rfl, rfl⟩
  · rw [show decide (V.str (partW 3) = V.str "log") = true from s_eq]
    refine ⟨_, rfl, _, rfl, a, _, _, _, rfl, rfl, SqL.of L4.2.1, ax1, x1.1, dx4, _, rfl, k1, rfl, x1.1, x1.2, _, _, 1, rfl, l4, Nat.le_refl _, ?_⟩
    rw [List.take_length] at ls4
    obtain ⟨v0, e0, r0⟩ := ls4 0 (by decide)
    obtain ⟨v1', e1, r1'⟩ := ls4 1 (by decide)
    obtain ⟨v2', e2, r2'⟩ := ls4 2 (by decide)
    refine ⟨_, rfl, _, rfl, pd, .ref (L 0), rfl, .inl ⟨kvs, .inr "box", .inl pd4, rfl, (dg 0 (by decide)).symm⟩, L 0, v0, rfl, .inl ⟨SqL.of e0, fun t0 ht0 => ?_⟩⟩
    have m0 := same_new (o := .tup v0) ht0
    refine ⟨_, rfl, pd, .ref (L 1), rfl, .inl ⟨kvs, .inr "thing", .inl (m0 _ _ pd4), rfl, (dg 1 (by decide)).symm⟩, L 1, v1', rfl, .inl ⟨SqL.of (m0 _ _ e1), fun t1 ht1 => ?_⟩⟩
    have m1 := m0.trans (same_new (o := .tup v1') ht1)
    have c0 := same_new (o := .tup v1') ht1 _ _ (upd_same (a := t0) (H := H4) (o := .tup v0))
    refine ⟨_, rfl, pd, .ref (L 2), rfl, .inl ⟨kvs, .inr "seal", .inl (m1 _ _ pd4), rfl, (dg 2 (by decide)).symm⟩, L 2, v2', rfl, .inl ⟨SqL.of (m1 _ _ e2), fun t2 ht2 => ?_⟩⟩
    have s2 := same_new (o := .tup v2') ht2
    have m2 := m1.trans s2
    have d0 := s2 _ _ c0
    have d1 := s2 _ _ (upd_same (a := t1) (o := .tup v1'))
    have d2 := upd_same (a := t2) (H := upd (upd H4 t0 (.tup v0)) t1 (.tup v1')) (o := .tup v2')
    generalize upd (upd (upd H4 t0 (.tup v0)) t1 (.tup v1')) t2 (.tup v2') = H5 at m2 d0 d1 d2
    refine ⟨(by show 4 ≤ sizeLine; decide), fun t3 ht3 => ?_⟩
    have s3 := same_new (o := .tup [V.int (hands : Int), .ref t0, .ref t1, .ref t2]) ht3
    refine ⟨_, rfl, _, _, rfl, rfl, (by show 2 ≤ sizeLine; decide), fun t4 ht4 => ?_⟩
    have s4 := same_new (o := .tup [V.ref t3, .int (((all.length + 1 : Nat) : Int) + 1)]) ht4
    have s5 := s3.trans s4
    have kp := Kp.of_same (m2.trans s5)
    have z3 := s4 _ _ (upd_same (a := t3) (H := H5) (o := .tup [V.int (hands : Int), .ref t0, .ref t1, .ref t2]))
    refine q _ _ (L4.ext (m2.trans s5)) ?_
    rw [show (all.length : Int) + 2 = ((all.length + 1 : Nat) : Int) + 1 by omega]
    exact .tup (SqT.of upd_same) (.cons (.tup (SqT.of z3) (.cons (.int _) (.cons (.tup (SqT.of (s5 _ _ d0)) (RtA.keep kp r0)) (.cons (.tup (SqT.of (s5 _ _ d1)) (RtA.keep kp r1')) (.cons (.tup (SqT.of (s5 _ _ d2)) (RtA.keep kp r2')) .nil))))) (.cons (.int _) .nil))
  · have hm := List.mem_of_getElem? he
    obtain ⟨hc3, hg, hn⟩ := hl.ok e hm
    have hlt := (List.getElem?_eq_some_iff.1 he).1
    rw [s_ne (part_nl e.1 hc3)]
    obtain ⟨vs, e1, r1'⟩ := ls4 e.1 hc3
    refine ⟨_, rfl, _, rfl, pd, .ref (L e.1), rfl, .inl ⟨kvs, .inr (partW e.1), .inl pd4, rfl, (dg e.1 hc3).symm⟩, .inl ⟨rfl, _, SqL.of e1⟩, ?_⟩
    refine ⟨_, rfl, _, rfl, a, _, _, _, rfl, rfl, SqL.of L4.2.1, ax1, x1.1, dx4, _, rfl, k1, rfl, (by show 2 ≤ sizeLine; decide), fun t ht => ?_⟩
    have smt := same_new (o := .tup [V.str "hand", .str "box"]) ht
    refine ⟨x1.1, x1.2, _, _, _, .ref t, ["hand", "box"], e.2.w, e.2.n, rfl, l4.ext smt, .tup (.inl (.inl upd_same)) (.cons (.str _) (.cons (.str _) .nil)), rfl, ?_, rfl, hn, fun v5 H5 a5 l5 r5 => ?_⟩
    · generalize e.2 = pl at hg
      cases pl with
      | gone => exact absurd rfl hg
      | hand n => show ("hand" : Str) ∈ _; decide +kernel
      | box n => show ("box" : Str) ∈ _; decide +kernel
    have a5 := (Adv.of (p := x1.1) smt).trans a5
    have pd5 := a5 _ _ np4 pd4
    have ls5 : ∀ c, c < 3 → ∃ vs, H5 (L c) = some (.lst vs) ∧ RtA K H5 vs (selE c (all.take i)) := fun c hc => by
      obtain ⟨vs, e1, e2⟩ := ls4 c hc
      exact ⟨vs, a5 _ _ (fun z => by rw [z, k1] at e1; cases e1) e1, RtA.keepT (l4.sqT a5) e2⟩
    have e5 := a5 _ _ (fun z => by rw [z, k1] at e1; cases e1) e1
    have r6 : RtA K H5 vs (selE e.1 (all.take i)) := RtA.keepT (l4.sqT a5) r1'
    have lv : vs.length ≤ 20 := by
      have h1 := r6.length
      have h2 := selE_len (c := e.1) (l := all.take i)
      have h3 := hl.few
      rw [List.length_take] at h2
      omega
    have L5 := ln'.adv hx1 hw (a4.trans a5)
    refine ⟨L e.1, vs, v5, rfl, rfl, e5, Nat.lt_of_le_of_lt lv (by decide), ?_⟩
    have bt : ∀ b o, b ≠ L e.1 → H5 b = some o → upd H5 (L e.1) (.lst (vs ++ [v5])) b = some o := fun b o n z => by rw [upd_ne n]; exact z
    have L6 := L5.but e5 (h0l _ hc3) (ha _ hc3) (hwl _ hc3) bt
    have l6 := l5.but e5 (hwl _ hc3 x1 (List.mem_of_getElem? hx1)) bt
    have st := sqT_butL (K := K) e5 bt
    obtain ⟨dx6, q1, q2⟩ := id l6
    refine ⟨_, rfl, _, rfl, a, _, _, _, rfl, rfl, SqL.of L6.2.1, ax1, x1.1, dx6, _, rfl, q1, rfl, x1.1, x1.2, _, _, _, rfl, l6, Nat.le_refl _, ?_⟩
    refine ⟨hlt, e.1, _, _, rfl, hc4, fun j f hj hf => hl.up i j e f (by omega) he hf, L6, bt _ _ (Ne.symm (nl _ hc3).2) pd5, fun d hd => ?_⟩
    have et : all.take (i + 1) = all.take i ++ [e] := by rw [List.take_add_one, he]; rfl
    rw [et]
    by_cases hde : e.1 = d
    · subst hde
      rw [selE_snoc rfl]
      exact ⟨_, upd_same, RtA.snoc (Rt.keepT st r5) (RtA.keepT st r6)⟩
    · rw [selE_other hde]
      obtain ⟨vs2, f1', f2'⟩ := ls5 d hd
      exact ⟨vs2, bt _ _ (ij d e.1 hd hc3 (Ne.symm hde)) f1', RtA.keepT st f2'⟩
end
end Q47
set_option maxHeartbeats 4000000
/-! ### parse_log -/
namespace Q47
open PySem L2
open PySem.W (Frag)
open PyProof.Rows (envOfC)
def tMkS (K : Frag) (C : Addr) (sp : Sp) (te : TE) : TE := fun σ H Q => te σ H fun y H1 => ∃ a xs, y = V.ref a ∧ (SqT K H1 a xs ∨ SqL K H1 a xs) ∧ ∀ x dx, H1 x = none → H1 dx = none → dx ≠ x → sp (.ref x :: (xs ++ [])) (upd (upd H1 dx (.own x)) x (.ins C dx [])) (fun v H2 => v = .non ∧ Q (.ref x) H2) E0
section
variable {X : Cx} {p pos sp_ : Pos} {e : Expr} {te : TE} {k : Nat} {ps : List Str} {sp : Sp}
theorem pe_gRK (K : Frag) {x : Str} {pos : Pos} (h : X.mg x = some (.ref (He.ga K x))) (hg : Gl X x := by rfl) (hd : (x == ("__debug__" : Str)) = false := by decide) : PE X (.Name x pos) (tC (.ref (He.ga K x))) := pe_glob hg h rfl hd
theorem pe_mkS {c : Str} (M : Mk X.K (He.ga X.K c) (He.fAd X.K (c, some "__init__"))) (F : Ok X.prog X.w X.K X.mg X.base k (c, some "__init__") ps sp) (hr : Room (k + 1) X.A) (hm : X.mg c = some (.ref (He.ga X.K c))) (he : PE X e te) (hg : Gl X c := by rfl)
    (hdb : (c == ("__debug__" : Str)) = false := by decide) (hst : starEach [.Starred e sp_] X.env = [(true, eval e X.env)] := by rfl) : PE X (.Call (.Name c p) [.Starred e sp_] [] pos) (tMkS X.K (He.ga X.K c) sp te) := by
  obtain ⟨_, F', b, _⟩ := F
  refine ⟨fun pins s σ H Q I h => ?_⟩
  refine wpAny_Call_Name_kw (ld_glob I hg hm ?_ hdb)
  refine PySem.W.callWith_S (h₀ := X.base) I.ok.mod.kin M.kp (thn (he.run pins s σ H _ I h) fun v s1 ⟨y, H1, I1, ry, a, xs, ey, hxs, q⟩ => ?_) hst
  subst ey
  obtain rfl : v = Value.ref a := ry
  exact StX.star_any I1 hxs fun us s2 I2 rv => ⟨I2.kIn, run_make M F' hr b .nil pass0 I2 rv q⟩
end
section
variable {P : Program} {w : World} {K : Frag} {mg : Str → Option Value} {base : Heap}
def allOf (h : Hs) : All := h.boxes.map (fun p => (0, p)) ++ h.things.map (fun p => (1, p)) ++ h.seals.map fun p => (2, p)
theorem Lns.but2 {K : Frag} {H0 H H' : Hp} {a q : Addr} {wss : List (List Str)} {pw : List (Addr × Addr)} {n : Nat} {xs : List V} (l : Lns K H0 a wss pw n H) (hq : H q = some (.lst xs)) (h0 : H0 q = none) (ha : a ≠ q) (hw : ∀ (i : Nat) (x : Addr × Addr), n ≤ i → pw[i]? = some x → x.2 ≠ q) (e : ∀ b o, b ≠ q → H b = some o → H' b = some o) : Lns K H0 a wss pw n H' := by
  obtain ⟨g0, h1, h2, h4, h3⟩ := l
  exact ⟨fun b o z => e b o (fun y => by rw [y, h0] at z; cases z) (g0 b o z), e _ _ ha h1, h2, h4, fun i x ws hi hx hv => (h3 i x ws hi hx hv).but hq (hw i x hi hx) e⟩
theorem Lns.words2 {K : Frag} {H0 H : Hp} {a : Addr} {wss : List (List Str)} {pw : List (Addr × Addr)} {n i : Nat} {x : Addr × Addr} (l : Lns K H0 a wss pw n H) (hi : n ≤ i) (hx : pw[i]? = some x) : ∃ ys, H x.2 = some (.lst ys) := by
  obtain ⟨_, h1, h2, _, h3⟩ := l
  have hl := (List.getElem?_eq_some_iff.1 hx).1
  obtain ⟨_, _, g⟩ := h3 i x _ hi hx (List.getElem?_eq_getElem (by omega))
  exact ⟨_, g⟩
theorem cut_lo {xs : List V} {n : Nat} (h : n ≤ xs.length) : cutV xs (some (n : Int)) none = xs.drop n := by
  unfold cutV
  rw [HT.sIx_nat, HT.sIx_none, Nat.min_eq_left h, List.take_of_length_le (by rw [List.length_drop]; exact Nat.le_refl _)]
theorem fil_t (l : List Pl) : l.filter (fun _ => true) = l := List.filter_eq_self.2 fun _ _ => rfl
theorem fil_f (l : List Pl) : l.filter (fun _ => false) = [] := List.filter_eq_nil_iff.2 fun _ _ z => (nomatch z)
theorem sel0 (h : Hs) : selE 0 (allOf h) = h.boxes.map Pl.e := by
  unfold selE allOf
  simp [List.filter_append, List.filter_map, Function.comp_def, fil_t, fil_f]
theorem sel1 (h : Hs) : selE 1 (allOf h) = h.things.map Pl.e := by
  unfold selE allOf
  simp [List.filter_append, List.filter_map, Function.comp_def, fil_t, fil_f]
theorem sel2 (h : Hs) : selE 2 (allOf h) = h.seals.map Pl.e := by
  unfold selE allOf
  simp [List.filter_append, List.filter_map, Function.comp_def, fil_t, fil_f]
abbrev s_parse_log : Stmt := topS 61
abbrev N_parse_log : List Str := ["text", "lines", "parts", "begin", "rows", "line"]
theorem sc_parse_log : FnScope N_parse_log ["text"] (defScope s_parse_log) := ⟨rfl, rfl, rfl, by decide +kernel, rfl, by decide +kernel, by decide +kernel⟩
structure TextOk (h : Hs) (rs : List Rw) (x : Str) (ls : List Str) (wss : List (List Str)) : Prop where
  sp : Txt.split x "\n" = ls
  ws : ls.map (fun r => Txt.split r " ") = wss
  hl : HLines h.hands (allOf h) wss
  row : ∀ (j : Nat) r, rs[j]? = some r → wss[(allOf h).length + 2 + j]? = some (wordsD r.e)
  len : wss.length = (allOf h).length + 2 + rs.length
  small : x.length ≤ 100000
  lsmall : ∀ l ∈ ls, l.length ≤ 200
  hs : HsOk h
  rok : ∀ r ∈ rs, RwOk h r
  few : rs.length ≤ 30
def spPL (K : Frag) : Sp := fun vs H Q _ => ∃ (h : Hs) (rs : List Rw) (x : Str) (ls : List Str) (wss : List (List Str)), vs = [.str x] ∧ TextOk h rs x ls wss ∧ ∀ v H', Same H H' → LogAt K h rs v H' → Q v H'
theorem ok_pl (T : Tx K mg) (T3 : Tx3 w K) : Ok P w K mg base 11 ("parse_log", none) ["text"] (spPL K) := by
  have f_lines_of : Ok P w K mg base 3 ("lines_of", none) ["text"] (spLO K) := ok_lo T
  have f_read_house : Ok P w K mg base 4 ("read_house", none) ["lines"] (spRH K) := ok_rh T T3
  have f_read_row : Ok P w K mg base 10 ("read_row", none) ["line", "words"] (spRR K) := ok_rr T T3
  have f_House___init__ : Ok P w K mg base 4 ("House", some "__init__") ["self", "hands", "boxes", "things", "seals"] (spHouse K) := ok_House T
  have f_Log___init__ : Ok P w K mg base 8 ("Log", some "__init__") ["self", "house", "rows"] (spLog K) := ok_Log T
  refine okH T.d_parse_log sc_parse_log (fun _ _ _ _ _ _ us hl => match us, hl with | [_], _ => rfl) (fun vs H Q E ⟨_, _, _, _, _, e, _⟩ => by rw [e]; rfl) fun f cdv Ar outer s H E hr vs Q ⟨h, rs, x, ls, wss, e, tx, q⟩ => ?_
  subst e
  refine ⟨_, (pss_cons (ps_set (i := 1) sc_parse_log.nd rfl (Or.inl rfl) (pe_cf f_lines_of (hr.mono (by decide)) T.g_lines_of (pa_cons (pv 0) pa_nil)))
      (pss_cons (ps_asg (pe_cf f_read_house (hr.mono (by decide)) T.g_read_house (pa_cons (pv 1) pa_nil)) (pg_tupK (n := 2) K rfl (pgs_cons (pg_name (i := 2) sc_parse_log.nd rfl (Or.inl rfl)) (pgs_cons (pg_name (i := 3) sc_parse_log.nd rfl (Or.inl rfl)) pgs_nil))))
      (pss_cons (ps_setLc (i := 4) (own := [("line", 5)]) rfl sc_parse_log.nd rfl rfl (sw_true rfl rfl rfl (by decide +kernel)) (pi_listK K (pe_slice (sl_listK K) (pv 1) (po_some (pv 3)) po_none)) (blkOk_by (own := [("line", 5)]) (N := N_parse_log) (sc := defScope s_parse_log) (by decide +kernel)) (fun _ _ _ _ _ => (pg_name (i := 5) sc_parse_log.nd rfl (Or.inl rfl))) (fun _ _ _ _ _ => pts_nil) (fun _ _ _ _ _ => (pe_cf f_read_row (hr.mono (by decide)) T.g_read_row (pa_cons (pv 5) (pa_cons (pe_gRK K T.g_ROWS) pa_nil)))))
      (pss_one (ps_ret (pe_mkO T.m_Log f_Log___init__ (hr.mono (by decide)) T.g_Log (pa_cons (pe_mkS T.m_House f_House___init__ (hr.mono (by decide)) T.g_House (pv 2)) (pa_cons (pv 4) pa_nil)))))))), ?_⟩
  refine ⟨_, rfl, x, ls, wss, rfl, tx.sp, tx.ws, tx.small, ?_, tx.lsmall, fun a pw H1 ha0 L => ?_⟩
  · have := tx.hl.wfew
    rw [← tx.ws, List.length_map] at this
    exact this
  refine ⟨_, rfl, H, a, wss, pw, h.hands, allOf h, rfl, L, tx.hl, fun v H2 L2 r2 => ?_⟩
  have hn : ((allOf h).length : Int) + 2 = (((allOf h).length + 2 : Nat) : Int) := by omega
  rw [hn] at r2
  generalize hN : (allOf h).length + 2 = n0 at L2 r2
  have hlen : pw.length = wss.length := L.2.2.1
  have hwl := tx.len
  rw [hN] at hwl
  have hfew := tx.few
  cases r2 with
  | tup hq r =>
  cases r with
  | @cons vp _ _ _ rp r =>
  cases r with
  | @cons vi _ _ _ ri r =>
  cases r
  cases ri
  refine ⟨_, _, rfl, hq, rfl, _, _, rfl, _, _, rfl, rfl, ?_⟩
  refine ⟨_, rfl, _, rfl, _, rfl, a, _, rfl, SqL.of L2.2.1, fun b hb => ?_⟩
  have smb := same_new (o := .lst (cutV (pw.map fun x => V.ref x.1) (some (n0 : Int)) none)) hb
  rw [cut_lo (by rw [List.length_map]; omega)] at smb
  rw [cut_lo (by rw [List.length_map]; omega)]
  refine ⟨b, rfl, ⟨_, SqL.of upd_same⟩, fun D hD => ?_⟩
  have nbD : b ≠ D := fun z => by rw [← z, upd_same] at hD; cases hD
  have hD2 : H2 D = none := by rw [upd_ne (Ne.symm nbD)] at hD; exact hD
  have hD0 : H D = none := by
    cases e : H D with
    | none => rfl
    | some o => rw [L2.1 _ _ e] at hD2; cases hD2
  have hb0 : H b = none := by
    cases e : H b with
    | none => rfl
    | some o => rw [L2.1 _ _ e] at hb; cases hb
  have naD : a ≠ D := fun z => by rw [← z, L2.2.1] at hD2; cases hD2
  have hw2 : ∀ (i : Nat) (x : Addr × Addr), n0 ≤ i → pw[i]? = some x → x.2 ≠ D := fun i x hi hx z => by
    obtain ⟨ys, e⟩ := L2.words2 hi hx
    rw [z, hD2] at e
    cases e
  have sm3 := smb.trans (same_new (o := .lst []) hD)
  refine lc_list (K := K) (xs := (pw.map fun x => V.ref x.1).drop n0) (fun i H' => i ≤ rs.length ∧ Lns K H a wss pw (n0 + i) H' ∧ H' b = some (.lst ((pw.map fun x => V.ref x.1).drop n0)) ∧ Rt K H' vp (.tuple [.int (h.hands : Int), .tuple (selE 0 (allOf h)), .tuple (selE 1 (allOf h)), .tuple (selE 2 (allOf h))]) ∧ ∃ vs, H' D = some (.lst vs) ∧ RtA K H' vs ((rs.take i).map Rw.e)) ⟨Nat.zero_le _, L2.ext sm3, ?_, Rt.keep (Kp.of_same sm3) rp, [], upd_same, .nil⟩ (fun i H' _ h => SqL.of h.2.2.1) ?_ ?_
  · rw [upd_ne nbD, upd_same]
  · rintro i x' H' hx' ⟨hil, ln, hb', hp', vs, hvs, hrs⟩
    rw [List.getElem?_drop, List.getElem?_map] at hx'
    obtain ⟨y, hy, rfl⟩ := Option.map_eq_some_iff.1 hx'
    have hylt := (List.getElem?_eq_some_iff.1 hy).1
    have hilt : i < rs.length := by omega
    have hri : rs[i]? = some rs[i] := List.getElem?_eq_getElem hilt
    generalize rs[i] = ri at hri
    have hmi := List.mem_of_getElem? hri
    have hwi := tx.row i ri hri
    rw [hN] at hwi
    obtain ⟨y', hy', sq', at', l1⟩ := ln.get (Nat.le_refl _) hwi
    obtain rfl : y' = y := by rw [hy] at hy'; exact (Option.some.inj hy').symm
    refine ⟨rfl, ?_⟩
    refine ⟨_, rfl, y'.1, y'.2, _, _, _, _, ri.e, rfl, l1, .tup (T.t_ROWS _) RtA.strs, rfl, tk_rw tx.hs (tx.rok ri hmi), fun v H3 a3 l3 r3 => ?_⟩
    obtain ⟨dx1, g1, g2⟩ := id l1
    have nDy : D ≠ y'.1 := fun z => by rw [← z, hvs] at g1; cases g1
    have nby : b ≠ y'.1 := fun z => by rw [← z, hb'] at g1; cases g1
    have hv3 := a3 _ _ nDy hvs
    have hb3 := a3 _ _ nby hb'
    have L3 := ln.adv hy hwi a3
    have bt : ∀ c o, c ≠ D → H3 c = some o → upd H3 D (.lst (vs ++ [v])) c = some o := fun c o n z => by rw [upd_ne n]; exact z
    have st := sqT_butL (K := K) hv3 bt
    have lv : vs.length ≤ 30 := by
      have := hrs.length
      rw [List.length_map, List.length_take] at this
      omega
    have et : (rs.take (i + 1)).map Rw.e = (rs.take i).map Rw.e ++ [ri.e] := by rw [List.take_add_one, hri, List.map_append]; rfl
    refine ⟨vs, hv3, Nat.lt_of_le_of_lt lv (by decide), hilt, L3.but2 hv3 hD0 naD (fun j z hj hz => hw2 j z (by omega) hz) bt, bt _ _ nbD hb3, Rt.keepT st (Rt.keepT (l1.sqT a3) hp'), _, upd_same, ?_⟩
    rw [et]
    exact RtA.snoc (Rt.keepT st r3) (RtA.keepT st (RtA.keepT (l1.sqT a3) hrs))
  · rintro H' ⟨hil, ln, hb', hp', vs, hvs, hrs⟩
    rw [List.length_drop, List.length_map] at hrs
    rw [show pw.length - n0 = rs.length by omega, List.take_length] at hrs
    rw [sel0, sel1, sel2] at hp'
    cases hp' with
    | @tup ap xs _ hsq hr4 =>
    cases hr4 with
    | @cons u1 _ _ _ s1 hr4 =>
    cases hr4 with
    | @cons u2 _ _ _ s2 hr4 =>
    cases hr4 with
    | @cons u3 _ _ _ s3 hr4 =>
    cases hr4 with
    | @cons u4 _ _ _ s4 hr4 =>
    cases hr4
    refine ⟨_, rfl, ap, _, rfl, .inl hsq, fun x1 d1 hx1 hd1 hne1 => ?_⟩
    have hxd1 : upd H' d1 (.own x1) x1 = none := by rw [upd_ne (Ne.symm hne1)]; exact hx1
    have m1 : Same H' (upd (upd H' d1 (.own x1)) x1 (.ins (He.ga K "House") d1 [])) := (same_new hd1).trans (same_new hxd1)
    have kp1 := Kp.of_same m1
    refine ⟨x1, d1, u1, u2, u3, u4, h, rfl, upd_same, Rt.keep kp1 s1, Rt.keep kp1 s2, Rt.keep kp1 s3, Rt.keep kp1 s4, tx.hs, fun H5 k5 hA => ⟨rfl, ?_⟩⟩
    have m5 : Same H' H5 := fun c o z => k5 c o (ne_of_none z hx1) (m1 c o z)
    refine ⟨_, rfl, fun x2 d2 hx2 hd2 hne2 => ?_⟩
    have hxd2 : upd H5 d2 (.own x2) x2 = none := by rw [upd_ne (Ne.symm hne2)]; exact hx2
    have m6 : Same H5 (upd (upd H5 d2 (.own x2)) x2 (.ins (He.ga K "Log") d2 [])) := (same_new hd2).trans (same_new hxd2)
    have m7 := m5.trans m6
    refine ⟨x2, d2, .ref x1, .ref D, h, rs, .o D (rs.map Rw.e), rfl, upd_same, hA.keep (Kp.of_same m6), ⟨rfl, (fun z => z), vs, m7 _ _ hvs, RtA.keep (Kp.of_same m7) hrs⟩, .inr ⟨D, rfl⟩, tx.few, tx.rok, fun H8 k8 hL => ⟨rfl, ?_⟩⟩
    exact q _ _ (fun c o z => k8 c o (ne_of_none (ln.1.trans m5 c o z) hx2) (m6 c o (m5 c o (ln.1 c o z)))) hL
end
end Q47
set_option maxHeartbeats 4000000
/-! ### the text reads back -/
namespace Q47
open PySem L2
abbrev logW : List Str := ["log"]
def lWs (h : Hs) (rs : List Rw) : List (List Str) := ["hands", Str.ofString (toString (h.hands : Int))] :: ((allOf h).map lineW ++ (logW :: rs.map fun r => wordsD r.e))
theorem lineW_join (c : Nat) (p : Pl) : Txt.join " " (lineW (c, p)) = plLine (partW c) p := by
  unfold lineW plLine
  simp [wordsD, wordsA, Pl.e]
theorem all_lines (h : Hs) (rs : List Rw) : allLines h rs = (lWs h rs).map (Txt.join " ") := by
  unfold allLines hLines lWs allOf
  simp only [List.map_cons, List.map_append, List.map_map, List.cons_append, List.append_assoc, List.nil_append]
  have e (c : Nat) : (Txt.join " ") ∘ lineW ∘ (fun p => (c, p)) = plLine (partW c) := funext fun p => lineW_join c p
  rw [e, e, e]
  rfl
theorem all_few {h : Hs} (hh : HsOk h) : (allOf h).length ≤ 20 := by
  have := hh.b2
  have := hh.t4
  have := hh.s3
  unfold allOf
  simp only [List.length_append, List.length_map]
  omega
theorem all_ok {h : Hs} (hh : HsOk h) : ∀ e ∈ allOf h, e.1 < 3 ∧ e.2 ≠ .gone ∧ e.2.n < 10 := by
  obtain ⟨s1, s2, s3⟩ := pls_small hh
  intro e he
  unfold allOf at he
  simp only [List.mem_append, List.mem_map] at he
  rcases he with (⟨p, hp, rfl⟩ | ⟨p, hp, rfl⟩) | ⟨p, hp, rfl⟩
  · refine ⟨by show 0 < 3; decide, fun z => ?_, s1 p hp⟩
    obtain ⟨i, hi, e⟩ := List.mem_iff_getElem.1 hp
    have := hh.box i p (by rw [← e]; exact List.getElem?_eq_getElem hi)
    have z : p = .gone := z
    rw [z] at this
    exact this
  · refine ⟨by show 1 < 3; decide, fun z => ?_, s2 p hp⟩
    have := hh.thing p hp
    have z : p = .gone := z
    rw [z] at this
    exact this
  · refine ⟨by show 2 < 3; decide, fun z => ?_, s3 p hp⟩
    have := hh.sealp p hp
    have z : p = .gone := z
    rw [z] at this
    exact this
theorem all_up (h : Hs) : ∀ (i j : Nat) e f, i ≤ j → (allOf h)[i]? = some e → (allOf h)[j]? = some f → e.1 ≤ f.1 := by
  have pw : (allOf h).Pairwise fun a b => a.1 ≤ b.1 := by
    unfold allOf
    have cst (c : Nat) (l : List Pl) : (l.map fun p => (c, p)).Pairwise fun a b => a.1 ≤ b.1 := by
      rw [List.pairwise_map]
      induction l with
      | nil => exact .nil
      | cons a l ih => exact .cons (fun _ _ => Nat.le_refl _) ih
    refine List.pairwise_append.2 ⟨List.pairwise_append.2 ⟨cst _ _, cst _ _, fun a ha b hb => ?_⟩, cst _ _, fun a ha b hb => ?_⟩
    · obtain ⟨p, _, rfl⟩ := List.mem_map.1 ha
      obtain ⟨q, _, rfl⟩ := List.mem_map.1 hb
      exact Nat.zero_le _
    · obtain ⟨q, _, rfl⟩ := List.mem_map.1 hb
      rcases List.mem_append.1 ha with ha | ha
      · obtain ⟨p, _, rfl⟩ := List.mem_map.1 ha
        exact Nat.zero_le _
      · obtain ⟨p, _, rfl⟩ := List.mem_map.1 ha
        show 1 ≤ 2
        decide
  intro i j e f hij he hf
  obtain ⟨hi, e1⟩ := List.getElem?_eq_some_iff.1 he
  obtain ⟨hj, f1⟩ := List.getElem?_eq_some_iff.1 hf
  rcases Nat.lt_or_eq_of_le hij with hlt | rfl
  · have := List.pairwise_iff_getElem.1 pw i j hi hj hlt
    rw [e1, f1] at this
    exact this
  · rw [he] at hf
    rw [Option.some.inj hf]
    exact Nat.le_refl _
theorem lw_ok {h : Hs} {rs : List Rw} (hh : HsOk h) (hr : ∀ r ∈ rs, RwOk h r) : ∀ ws ∈ lWs h rs, ws ≠ [] ∧ ∀ w ∈ ws, okW w = true := by
  intro ws m
  unfold lWs at m
  simp only [List.mem_cons, List.mem_append, List.mem_map] at m
  rcases m with rfl | ⟨e, he, rfl⟩ | rfl | ⟨r, hm, rfl⟩
  · refine ⟨by simp, fun w hw => ?_⟩
    simp only [List.mem_cons, List.not_mem_nil, or_false] at hw
    rcases hw with rfl | rfl
    · decide +kernel
    · exact okW_num h.hands (by have := hh.h3; omega)
  · obtain ⟨h1, h2, h3⟩ := all_ok hh e he
    refine ⟨by unfold lineW; simp, fun w hw => ?_⟩
    unfold lineW at hw
    simp only [List.mem_cons, List.not_mem_nil, or_false] at hw
    rcases hw with rfl | rfl | rfl
    · revert h1
      generalize e.1 = c
      intro h1
      match c, h1 with
      | 0, _ => decide +kernel
      | 1, _ => decide +kernel
      | 2, _ => decide +kernel
    · exact okW_pl _
    · exact okW_num _ h3
  · refine ⟨by simp, fun w hw => ?_⟩
    simp only [List.mem_cons, List.not_mem_nil, or_false] at hw
    subst hw
    decide +kernel
  · refine ⟨fun z => ?_, Sm.words (sm_rw hh (hr r hm))⟩
    obtain ⟨w, tl, e, _⟩ := rw_word r
    rw [e] at z
    simp [wordsD, wordsA] at z
theorem okW_no {w : Str} (h : okW w = true) : 32 ∉ TL.tl w ∧ 10 ∉ TL.tl w := by
  unfold okW at h
  simp only [Bool.and_eq_true, decide_eq_true_eq, List.all_eq_true] at h
  exact ⟨fun m => (h.2 _ m).1 rfl, fun m => (h.2 _ m).2 rfl⟩
theorem mem_joinL {S : List Nat} {c : Nat} : ∀ {ps : List (List Nat)}, c ∈ TL.joinL S ps → c ∈ S ∨ ∃ p ∈ ps, c ∈ p
  | [], m => by simp [TL.joinL] at m
  | [p], m => .inr ⟨p, List.mem_singleton.2 rfl, by simpa [TL.joinL] using m⟩
  | p :: q :: r, m => by
    simp only [TL.joinL, List.mem_append] at m
    rcases m with m | m | m
    · exact .inr ⟨p, List.mem_cons_self, m⟩
    · exact .inl m
    · rcases mem_joinL m with m | ⟨p', hp, m⟩
      · exact .inl m
      · exact .inr ⟨p', List.mem_cons_of_mem _ hp, m⟩
theorem sp_tl : TL.tl (" " : Str) = [32] := by decide +kernel
theorem nl_tl : TL.tl ("\n" : Str) = [10] := by decide +kernel
theorem line_split {ws : List Str} (hne : ws ≠ []) (h : ∀ w ∈ ws, okW w = true) : Txt.split (Txt.join " " ws) " " = ws :=
  TL.split_join sp_tl (by decide +kernel) hne fun p hp => (okW_no (h p hp)).1
theorem line_no {ws : List Str} (h : ∀ w ∈ ws, okW w = true) : 10 ∉ TL.tl (Txt.join " " ws) := fun m => by
  rw [TL.join_eq, TL.tl_join, sp_tl] at m
  rcases mem_joinL m with m | ⟨p, hp, m⟩
  · exact absurd m (by decide)
  · obtain ⟨w, hw, rfl⟩ := List.mem_map.1 hp
    exact (okW_no (h w hw)).2 m
theorem text_back {h : Hs} {rs : List Rw} (hh : HsOk h) (hr : ∀ r ∈ rs, RwOk h r) (hl : rs.length ≤ 30) : TextOk h rs (logText h rs) (allLines h rs) (lWs h rs) where
  sp := TL.split_join nl_tl (by decide +kernel) (by unfold allLines hLines; simp) fun p hp => by
    rw [all_lines] at hp
    obtain ⟨ws, hw, rfl⟩ := List.mem_map.1 hp
    exact line_no (lw_ok hh hr ws hw).2
  ws := by
    rw [all_lines, List.map_map]
    have : ∀ ws ∈ lWs h rs, ((fun r => Txt.split r " ") ∘ Txt.join " ") ws = id ws := fun ws hw => line_split (lw_ok hh hr ws hw).1 (lw_ok hh hr ws hw).2
    rw [List.map_congr_left this, List.map_id]
  hl := {
    hd := rfl
    hn := by have := hh.h3; omega
    at_ := fun i e he => by
      have hi := (List.getElem?_eq_some_iff.1 he).1
      show ((allOf h).map lineW ++ (logW :: rs.map fun r => wordsD r.e))[i]? = _
      rw [List.getElem?_append_left (by rw [List.length_map]; exact hi), List.getElem?_map, he]
      rfl
    log := by
      show ((allOf h).map lineW ++ (logW :: rs.map fun r => wordsD r.e))[(allOf h).length]? = _
      rw [List.getElem?_append_right (by rw [List.length_map]; exact Nat.le_refl _), List.length_map, Nat.sub_self]
      rfl
    few := all_few hh
    wfew := by
      have := all_few hh
      unfold lWs
      simp only [List.length_cons, List.length_append, List.length_map]
      omega
    ok := all_ok hh
    up := all_up h }
  row := fun j r hj => by
    rw [show (allOf h).length + 2 + j = ((allOf h).length + 1 + j) + 1 by omega]
    show ((allOf h).map lineW ++ (logW :: rs.map fun r => wordsD r.e))[(allOf h).length + 1 + j]? = _
    rw [List.getElem?_append_right (by rw [List.length_map]; omega), List.length_map, show (allOf h).length + 1 + j - (allOf h).length = j + 1 by omega, List.getElem?_cons_succ, List.getElem?_map, hj]
    rfl
  len := by
    unfold lWs
    simp only [List.length_cons, List.length_append, List.length_map]
    omega
  small := text_len hh hr hl
  lsmall := line_len hh hr
  hs := hh
  rok := hr
  few := hl
end Q47
set_option maxHeartbeats 4000000
/-! ### the law -/
namespace Q47
open PySem L2
open PySem.W (Frag)
open PyProof.Rows (envOfC)
local macro_rules | `(tactic| walk_at "shp") => `(tactic| first
  | with_reducible exact (shp_int _).ok
  | with_reducible exact (shp_pl _).ok
  | with_reducible exact (shp_bool _).ok
  | with_reducible exact (shp_it _).ok
  | with_reducible exact (shp_str (by decide +kernel)).ok
  | with_reducible exact (shp_2 (shp_str (by decide +kernel)) (shp_int _)).ok
  | with_reducible exact (shp_st _).ok
  | with_reducible exact (shp_dd _).ok
  | with_reducible exact (shp_sg _).ok
  | with_reducible exact (shp_rw _).ok
  | assumption)
local macro_rules | `(tactic| walk_at "ed") => `(tactic| first
  | ((with_reducible refine' ed_var ?hv ?_); (case hv => exact rfl))
  | with_reducible refine ed_int ?_
  | with_reducible refine ed_str ?_
  | with_reducible refine ed_bl ?_
  | with_reducible refine ed_non ?_
  | with_reducible refine edd_cons ?_
  | with_reducible refine edd_nil ?_
  | with_reducible refine eda_cons ?_
  | with_reducible refine eda_nil ?_
  | with_reducible refine ⟨_, rfl, ?_⟩
  | with_reducible refine ⟨_, _, rfl, ?_⟩
  | with_reducible refine ⟨_, _, _, rfl, ?_⟩
  | with_reducible refine ed_tupD ?_
  | with_reducible refine ed_lstD ?_
  | with_reducible refine ed_op ?_
  | with_reducible refine ed_cb ?_
  | with_reducible refine ed_call ?_
  | with_reducible refine ed_and ?_
  | with_reducible refine ed_or ?_
  | with_reducible refine ed_not ?_
  | with_reducible refine ed_if ?_
  | with_reducible refine td_test ?_
  | with_reducible refine td_B ?_
  | with_reducible refine td_and ?_
  | with_reducible refine td_or ?_
  | with_reducible refine td_not ?_
  | with_reducible refine td_yes ?_
  | with_reducible refine rd_I0 ?_
  | with_reducible refine rd_B0 ?_
  | ((with_reducible refine rd_eq ?hx ?hy ?_); (case hx => walk_at "shp"); (case hy => walk_at "shp"))
  | ((with_reducible refine rd_ne ?hx ?hy ?_); (case hx => walk_at "shp"); (case hy => walk_at "shp"))
  | ((with_reducible refine' rd_ixTi ?h0 ?hi ?_); (case h0 => decide); (case hi => exact rfl))
  | ((with_reducible refine len_ok ?hl ?_); (case hl => exact rfl))
  | ((with_reducible refine ed_dsel3 ?a12 ?a13 ?a23 ?_); (case a12 => decide +kernel); (case a13 => decide +kernel); (case a23 => decide +kernel))
  | with_reducible refine fun _ (_ : New _ _ _) => ?_
  | with_reducible refine cd_lenK (.inr ⟨_, rfl, ?_⟩)
  | with_reducible refine cd_lenK (.inl ⟨_, _, rfl, ?_⟩)
  | with_reducible refine cd_tupleK ?_
  | ((with_reducible refine if_t ?hc ?_); (case hc => first | rfl | decide +kernel))
  | ((with_reducible refine if_f ?hc ?_); (case hc => first | rfl | decide +kernel))
  | with_reducible refine sd_par ?_
  | with_reducible refine sd_par3 ?_
  | with_reducible refine sd_next ?_
  | with_reducible refine sd_ret ?_
  | with_reducible refine sd_seq ?_
  | with_reducible refine sd_asg ?_
  | with_reducible refine gd_name ?_
  | with_reducible refine sd_if ?_)
local macro_rules | `(tactic| walk_at "out") => `(tactic| exact ⟨by assumption, fun _ _ z => by cases z⟩)
local macro_rules | `(tactic| walk_at "eds") => `(tactic| repeat walk_at "ed")

local macro_rules | `(tactic| walk_at "shp") => `(tactic| first
  | with_reducible exact (shp_int _).ok
  | with_reducible exact (shp_pl _).ok
  | with_reducible exact (shp_bool _).ok
  | with_reducible exact (shp_it _).ok
  | with_reducible exact (shp_str (by decide +kernel)).ok
  | with_reducible exact (shp_2 (shp_str (by decide +kernel)) (shp_int _)).ok
  | with_reducible exact (shp_st _).ok
  | with_reducible exact (shp_str (kd_ok _)).ok
  | with_reducible exact (shp_str (pl_ok _)).ok
  | with_reducible exact (shp_pls _).ok
  | with_reducible exact (shp_hs _).ok
  | with_reducible exact shp_nil.ok
  | with_reducible exact (shp_dd _).ok
  | with_reducible exact (shp_sg _).ok
  | with_reducible exact (shp_rw _).ok
  | assumption)
local macro_rules | `(tactic| walk_at "ed") => `(tactic| first
  | ((with_reducible refine' ed_var ?hv ?_); (case hv => exact rfl))
  | with_reducible refine ed_int ?_
  | with_reducible refine ed_str ?_
  | with_reducible refine ed_bl ?_
  | with_reducible refine ed_non ?_
  | with_reducible refine edd_cons ?_
  | with_reducible refine edd_nil ?_
  | with_reducible refine eda_cons ?_
  | with_reducible refine eda_nil ?_
  | with_reducible refine ⟨_, rfl, ?_⟩
  | with_reducible refine ⟨_, _, rfl, ?_⟩
  | with_reducible refine ⟨_, _, _, rfl, ?_⟩
  | with_reducible refine ed_tupD ?_
  | with_reducible refine ed_lstD ?_
  | with_reducible refine ed_op ?_
  | with_reducible refine ed_lstRg ?_
  | with_reducible refine ed_cb ?_
  | with_reducible refine ed_call ?_
  | with_reducible refine ed_and ?_
  | with_reducible refine ed_or ?_
  | with_reducible refine ed_not ?_
  | with_reducible refine ed_if ?_
  | with_reducible refine td_test ?_
  | with_reducible refine td_B ?_
  | with_reducible refine td_and ?_
  | with_reducible refine td_or ?_
  | with_reducible refine td_not ?_
  | with_reducible refine td_yes ?_
  | with_reducible refine rd_I0 ?_
  | with_reducible refine rd_B0 ?_
  | ((with_reducible refine rd_eq ?hx ?hy ?_); (case hx => walk_at "shp"); (case hy => walk_at "shp"))
  | ((with_reducible refine rd_ne ?hx ?hy ?_); (case hx => walk_at "shp"); (case hy => walk_at "shp"))
  | ((with_reducible refine' rd_ixTi ?h0 ?hi ?_); (case h0 => decide); (case hi => exact rfl))
  | ((with_reducible refine len_ok ?hl ?_); (case hl => exact rfl))
  | ((with_reducible refine ed_dsel3 ?a12 ?a13 ?a23 ?_); (case a12 => decide +kernel); (case a13 => decide +kernel); (case a23 => decide +kernel))
  | with_reducible refine fun _ (_ : New _ _ _) => ?_
  | with_reducible refine cd_lenK (.inr ⟨_, rfl, ?_⟩)
  | with_reducible refine cd_lenK (.inl ⟨_, _, rfl, ?_⟩)
  | with_reducible refine cd_tupleK ?_
  | ((with_reducible refine if_t ?hc ?_); (case hc => first | rfl | decide +kernel))
  | ((with_reducible refine if_f ?hc ?_); (case hc => first | rfl | decide +kernel))
  | with_reducible refine sd_par ?_
  | with_reducible refine sd_par3 ?_
  | with_reducible refine sd_next ?_
  | with_reducible refine sd_ret ?_
  | with_reducible refine sd_seq ?_
  | with_reducible refine sd_asg ?_
  | with_reducible refine gd_name ?_
  | with_reducible refine sd_if ?_)
local macro_rules | `(tactic| walk_at "out") => `(tactic| exact ⟨by assumption, fun _ _ z => by cases z⟩)
local macro_rules | `(tactic| walk_at "eds") => `(tactic| repeat walk_at "ed")

local macro_rules | `(tactic| walk_at "kit") => `(tactic| first | with_reducible exact kit_int_int | with_reducible exact kit_int_bool | with_reducible exact kit_int_str | with_reducible exact kit_int_tuple | with_reducible exact kit_int_list | with_reducible exact kit_int_dict | with_reducible exact kit_str_int | with_reducible exact kit_str_bool | with_reducible exact kit_str_str | with_reducible exact kit_str_tuple | with_reducible exact kit_str_list | with_reducible exact kit_str_dict | with_reducible exact kit_tuple_int | with_reducible exact kit_tuple_bool | with_reducible exact kit_tuple_str | with_reducible exact kit_tuple_tuple | with_reducible exact kit_tuple_list | with_reducible exact kit_tuple_dict | with_reducible exact kit_list_int | with_reducible exact kit_list_bool | with_reducible exact kit_list_str | with_reducible exact kit_list_tuple | with_reducible exact kit_list_list | with_reducible exact kit_list_dict)
local macro_rules | `(tactic| walk_at "shp") => `(tactic| first
  | with_reducible exact (shp_int _).ok
  | with_reducible exact (shp_pl _).ok
  | with_reducible exact (shp_bool _).ok
  | with_reducible exact (shp_it _).ok
  | with_reducible exact (shp_str (by decide +kernel)).ok
  | with_reducible exact (shp_2 (shp_str (by decide +kernel)) (shp_int _)).ok
  | with_reducible exact (shp_st _).ok
  | with_reducible exact (shp_str (kd_ok _)).ok
  | with_reducible exact (shp_str (pl_ok _)).ok
  | with_reducible exact (shp_pls _).ok
  | with_reducible exact (shp_hs _).ok
  | with_reducible exact shp_nil.ok
  | with_reducible exact (shp_dd _).ok
  | with_reducible exact (shp_sg _).ok
  | with_reducible exact (shp_rw _).ok
  | assumption)
local macro_rules | `(tactic| walk_at "ed") => `(tactic| first
  | ((with_reducible refine' ed_var ?hv ?_); (case hv => exact rfl))
  | with_reducible refine ed_int ?_
  | with_reducible refine ed_str ?_
  | with_reducible refine ed_bl ?_
  | with_reducible refine ed_non ?_
  | with_reducible refine edd_cons ?_
  | with_reducible refine edd_nil ?_
  | with_reducible refine eda_cons ?_
  | with_reducible refine eda_nil ?_
  | with_reducible refine ⟨_, rfl, _, fldH1 ‹_›, ?_⟩
  | with_reducible refine ⟨_, rfl, _, fldH2 ‹_›, ?_⟩
  | with_reducible refine ⟨_, rfl, _, fldH3 ‹_›, ?_⟩
  | with_reducible refine ⟨_, rfl, _, fldH4 ‹_›, ?_⟩
  | with_reducible refine ⟨_, rfl, insH, ?_⟩
  | with_reducible refine ⟨_, rfl, ?_⟩
  | with_reducible refine ⟨_, _, rfl, ?_⟩
  | with_reducible refine ⟨_, _, _, rfl, ?_⟩
  | with_reducible refine ed_tupD ?_
  | with_reducible refine ed_lstD ?_
  | with_reducible refine ed_op ?_
  | with_reducible refine ed_chain ?_
  | with_reducible refine ed_fld ?_
  | with_reducible refine ed_prop ?_
  | with_reducible refine ed_meth ?_
  | with_reducible refine gd_tup rfl ?_
  | with_reducible refine gds_cons ?_
  | with_reducible refine gds_nil ?_
  | with_reducible refine ed_slHi ?_
  | with_reducible refine ed_slLo ?_
  | ((with_reducible refine' cd_isiI ?hb ?_); (case hb => walk_at "kit"))
  | ((with_reducible refine' cd_isiS ?hb ?_); (case hb => walk_at "kit"))
  | ((with_reducible refine' cd_isiT ?hb ?_); (case hb => walk_at "kit"))
  | ((with_reducible refine' cd_isiL ?hb ?_); (case hb => walk_at "kit"))
  | with_reducible refine ed_ty ?_
  | with_reducible refine fun (_ : NewA _ _ _) => ?_
  | with_reducible refine ed_lstRg ?_
  | with_reducible refine ed_cb ?_
  | with_reducible refine ed_call ?_
  | with_reducible refine ed_and ?_
  | with_reducible refine ed_or ?_
  | with_reducible refine ed_not ?_
  | with_reducible refine ed_if ?_
  | with_reducible refine td_test ?_
  | with_reducible refine td_B ?_
  | with_reducible refine td_and ?_
  | with_reducible refine td_or ?_
  | with_reducible refine td_not ?_
  | with_reducible refine td_yes ?_
  | with_reducible refine rd_I0 ?_
  | with_reducible refine rd_eqT ?_
  | with_reducible refine rd_neT ?_
  | with_reducible refine rd_B0 ?_
  | ((with_reducible refine rd_eq ?hx ?hy ?_); (case hx => walk_at "shp"); (case hy => walk_at "shp"))
  | ((with_reducible refine rd_ne ?hx ?hy ?_); (case hx => walk_at "shp"); (case hy => walk_at "shp"))
  | ((with_reducible refine' rd_ixTi ?h0 ?hi ?_); (case h0 => decide); (case hi => exact rfl))
  | ((with_reducible refine len_ok ?hl ?_); (case hl => exact rfl))
  | ((with_reducible refine ed_dsel3 ?a12 ?a13 ?a23 ?_); (case a12 => decide +kernel); (case a13 => decide +kernel); (case a23 => decide +kernel))
  | with_reducible refine fun _ (_ : New _ _ _) => ?_
  | with_reducible refine cd_lenK (.inr ⟨_, rfl, ?_⟩)
  | with_reducible refine cd_lenK (.inl ⟨_, _, rfl, ?_⟩)
  | with_reducible refine cd_tupleK ?_
  | ((with_reducible refine if_t ?hc ?_); (case hc => first | rfl | decide +kernel))
  | ((with_reducible refine if_f ?hc ?_); (case hc => first | rfl | decide +kernel))
  | with_reducible refine sd_par ?_
  | with_reducible refine sd_par3 ?_
  | with_reducible refine sd_next ?_
  | with_reducible refine sd_ret ?_
  | with_reducible refine sd_drop ?_
  | with_reducible refine sd_seq ?_
  | with_reducible refine sd_asg ?_
  | with_reducible refine gd_name ?_
  | with_reducible refine sd_if ?_)
local macro_rules | `(tactic| walk_at "out") => `(tactic| exact ⟨by assumption, fun _ _ z => by cases z⟩)
local macro_rules | `(tactic| walk_at "eds") => `(tactic| repeat walk_at "ed")

local macro_rules | `(tactic| walk_at "kit") => `(tactic| first | with_reducible exact kit_int_int | with_reducible exact kit_int_bool | with_reducible exact kit_int_str | with_reducible exact kit_int_tuple | with_reducible exact kit_int_list | with_reducible exact kit_int_dict | with_reducible exact kit_str_int | with_reducible exact kit_str_bool | with_reducible exact kit_str_str | with_reducible exact kit_str_tuple | with_reducible exact kit_str_list | with_reducible exact kit_str_dict | with_reducible exact kit_tuple_int | with_reducible exact kit_tuple_bool | with_reducible exact kit_tuple_str | with_reducible exact kit_tuple_tuple | with_reducible exact kit_tuple_list | with_reducible exact kit_tuple_dict | with_reducible exact kit_list_int | with_reducible exact kit_list_bool | with_reducible exact kit_list_str | with_reducible exact kit_list_tuple | with_reducible exact kit_list_list | with_reducible exact kit_list_dict)
local macro_rules | `(tactic| walk_at "shp") => `(tactic| first
  | with_reducible exact (shp_int _).ok
  | with_reducible exact (shp_pl _).ok
  | with_reducible exact (shp_bool _).ok
  | with_reducible exact (shp_it _).ok
  | with_reducible exact (shp_str (by decide +kernel)).ok
  | with_reducible exact (shp_2 (shp_str (by decide +kernel)) (shp_int _)).ok
  | with_reducible exact (shp_st _).ok
  | with_reducible exact (shp_str (kd_ok _)).ok
  | with_reducible exact (shp_str (pl_ok _)).ok
  | with_reducible exact (shp_pls _).ok
  | with_reducible exact (shp_hs _).ok
  | with_reducible exact shp_nil.ok
  | with_reducible exact (shp_dd _).ok
  | with_reducible exact (shp_sg _).ok
  | with_reducible exact (shp_rw _).ok
  | assumption)
local macro_rules | `(tactic| walk_at "ed") => `(tactic| first
  | ((with_reducible refine' ed_var ?hv ?_); (case hv => exact rfl))
  | with_reducible refine ed_int ?_
  | with_reducible refine ed_str ?_
  | with_reducible refine ed_bl ?_
  | with_reducible refine ed_non ?_
  | with_reducible refine edd_cons ?_
  | with_reducible refine edd_nil ?_
  | with_reducible refine eda_cons ?_
  | with_reducible refine eda_nil ?_
  | with_reducible refine ⟨_, rfl, _, fldH1 ‹_›, ?_⟩
  | with_reducible refine ⟨_, rfl, _, fldH2 ‹_›, ?_⟩
  | with_reducible refine ⟨_, rfl, _, fldH3 ‹_›, ?_⟩
  | with_reducible refine ⟨_, rfl, _, fldH4 ‹_›, ?_⟩
  | with_reducible refine ⟨_, rfl, insH, ?_⟩
  | with_reducible refine ⟨_, rfl, ?_⟩
  | with_reducible refine ⟨_, _, rfl, ?_⟩
  | with_reducible refine ⟨_, _, _, rfl, ?_⟩
  | with_reducible refine ed_tupD ?_
  | with_reducible refine ed_lstD ?_
  | with_reducible refine ed_op ?_
  | with_reducible refine ed_chain ?_
  | with_reducible refine ed_fld ?_
  | with_reducible refine ed_prop ?_
  | with_reducible refine ed_meth ?_
  | with_reducible refine gd_tup rfl ?_
  | with_reducible refine gds_cons ?_
  | with_reducible refine gds_nil ?_
  | with_reducible refine ed_slHi ?_
  | with_reducible refine ed_slLo ?_
  | ((with_reducible refine' cd_isiI ?hb ?_); (case hb => walk_at "kit"))
  | ((with_reducible refine' cd_isiS ?hb ?_); (case hb => walk_at "kit"))
  | ((with_reducible refine' cd_isiT ?hb ?_); (case hb => walk_at "kit"))
  | ((with_reducible refine' cd_isiL ?hb ?_); (case hb => walk_at "kit"))
  | with_reducible refine ed_ty ?_
  | with_reducible refine fun (_ : NewA _ _ _) => ?_
  | with_reducible refine ed_lstRg ?_
  | with_reducible refine ed_isi2 ?_
  | with_reducible refine ed_cb ?_
  | with_reducible refine ed_call ?_
  | with_reducible refine ed_and ?_
  | with_reducible refine ed_or ?_
  | with_reducible refine ed_not ?_
  | with_reducible refine ed_if ?_
  | with_reducible refine td_test ?_
  | with_reducible refine td_B ?_
  | with_reducible refine td_and ?_
  | with_reducible refine td_or ?_
  | with_reducible refine td_not ?_
  | with_reducible refine td_yes ?_
  | with_reducible refine rd_I0 ?_
  | with_reducible refine rd_eqT ?_
  | with_reducible refine rd_neT ?_
  | with_reducible refine rd_B0 ?_
  | ((with_reducible refine rd_eq ?hx ?hy ?_); (case hx => walk_at "shp"); (case hy => walk_at "shp"))
  | ((with_reducible refine rd_ne ?hx ?hy ?_); (case hx => walk_at "shp"); (case hy => walk_at "shp"))
  | ((with_reducible refine' rd_ixTi ?h0 ?hi ?_); (case h0 => decide); (case hi => exact rfl))
  | ((with_reducible refine len_ok ?hl ?_); (case hl => exact rfl))
  | ((with_reducible refine ed_dsel3 ?a12 ?a13 ?a23 ?_); (case a12 => decide +kernel); (case a13 => decide +kernel); (case a23 => decide +kernel))
  | with_reducible refine fun _ (_ : New _ _ _) => ?_
  | with_reducible refine cd_lenK (.inr ⟨_, rfl, ?_⟩)
  | with_reducible refine cd_lenK (.inl ⟨_, _, rfl, ?_⟩)
  | with_reducible refine cd_tupleK ?_
  | ((with_reducible refine if_t ?hc ?_); (case hc => first | rfl | decide +kernel))
  | ((with_reducible refine if_f ?hc ?_); (case hc => first | rfl | decide +kernel))
  | with_reducible refine sd_par ?_
  | with_reducible refine sd_par3 ?_
  | with_reducible refine sd_next ?_
  | with_reducible refine sd_ret ?_
  | with_reducible refine sd_drop ?_
  | with_reducible refine sd_seq ?_
  | with_reducible refine sd_asg ?_
  | with_reducible refine gd_name ?_
  | with_reducible refine sd_if ?_)
local macro_rules | `(tactic| walk_at "out") => `(tactic| exact ⟨by assumption, fun _ _ z => by cases z⟩)
local macro_rules | `(tactic| walk_at "eds") => `(tactic| repeat walk_at "ed")

section
variable {K : Frag} {W : Wd} {Γ : Gm} {N : Gm → Prop} {R : A → Prop} {κ : A → Prop} {t : TS} {ts : TA}
theorem ed_pl (h : EDA K W ts Γ fun as => ∃ (h : Hs) (rs : List Rw) (x : Str) (ls : List Str) (wss : List (List Str)), as = [.d (.str x)] ∧ TextOk h rs x ls wss ∧ κ (.p (LogAt K h rs))) : ED K W (tCall (spPL K) [] E0 ts) Γ κ := fun σ H Q e s q =>
  h σ H _ e s fun vs H1 as r1 s1 ha k => by
    obtain ⟨h, rs, x, ls, wss, rfl, tx, k⟩ := k
    cases ha with
    | @cons v1 _ _ _ g1 ha =>
    cases ha
    have g1 : Rt K H1 v1 (.str x) := g1
    cases g1
    exact ⟨h, rs, x, ls, wss, rfl, tx, fun v H2 sm hA => q _ H2 (.p (LogAt K h rs)) (r1.trans (Ro.of_same sm)) (Wd.same s1 sm) (fun H3 k3 => hA.keep k3) k⟩
theorem cd_listT {ds : List PyData} (k : ∀ q, New W Γ q → κ (.o q ds)) : CD K W Γ (rListK K) [.d (.tuple ds)] κ := fun σ vs H Q e hv s q => by
  cases hv with
  | cons hv hn =>
    cases hn
    have hv : Rt K H _ (.tuple ds) := hv
    cases hv with
    | @tup a us _ hq r =>
      refine ⟨a, us, rfl, .inr hq, fun l hl => ?_⟩
      have sm := same_new (o := HO.lst us) hl
      exact q _ _ (.o l ds) (Ro.of_same sm) (Wd.same s sm) ⟨rfl, Wd.freshM s hl, _, upd_same, r.keep (Kp.of_same sm)⟩ (k l (new_of e s Ro.refl s hl))
/-- what follows is told by data, in a world that is known from here on -/
theorem raw_sdW {σ : St} {H : Hp} {D : Ends} (s : W.S H) (sd : SD K W t Γ N R) (en : En K W H σ Γ) (hn : ∀ σ' H' Γ', W.S H' → En K W H' σ' Γ' → N Γ' → D.nx σ' H')
    (hr : ∀ v H' a, W.S H' → Has K W H' v a → R a → D.rt v H') : t D σ H :=
  sd σ H D en s (fun σ' H' Γ' _ s e n => hn σ' H' Γ' s e n) fun v H' a _ s ha k => hr v H' a s ha k
end
mutual
theorem Sm.al : ∀ {n : Nat} {d : PyData}, Sm n d → AlD n d
  | 0, .str _, _ => by unfold AlD; trivial
  | _ + 1, .str _, _ => by unfold AlD; trivial
  | 0, .int i, _ => by unfold AlD; trivial
  | _ + 1, .int i, _ => by unfold AlD; trivial
  | n + 1, .tuple ds, h => by
    unfold Sm at h
    unfold AlD
    exact ⟨h.1, SmA.al h.2⟩
  | 0, .tuple _, h => by unfold Sm at h; exact h.elim
  | 0, .none, h => by unfold Sm at h; exact h.elim
  | 0, .bool _, h => by unfold Sm at h; exact h.elim
  | 0, .list _, h => by unfold Sm at h; exact h.elim
  | 0, .dict _, h => by unfold Sm at h; exact h.elim
  | _ + 1, .none, h => by unfold Sm at h; exact h.elim
  | _ + 1, .bool _, h => by unfold Sm at h; exact h.elim
  | _ + 1, .list _, h => by unfold Sm at h; exact h.elim
  | _ + 1, .dict _, h => by unfold Sm at h; exact h.elim
theorem SmA.al : ∀ {n : Nat} {ds : List PyData}, SmA n ds → AlA n ds
  | _, [], _ => by unfold AlA; trivial
  | n, d :: ds, h => by
    unfold SmA at h
    unfold AlA
    exact ⟨Sm.al h.1, SmA.al h.2⟩
end
theorem sm_pls {n : Nat} {l : List Pl} (hl : l.length ≤ 1000) (h : ∀ p ∈ l, p.n < 10) : Sm (n + 2) (plsE l) := by
  unfold Sm
  exact ⟨by rw [List.length_map]; exact hl, smA_map fun p hp => sm_pl (h p hp)⟩
theorem al_parts {h : Hs} (hh : HsOk h) : AlA 4 [.int (h.hands : Int), .tuple [plsE h.boxes, plsE h.things, plsE h.seals]] := by
  have := hh.b2
  have := hh.t4
  have := hh.s3
  have := hh.h3
  obtain ⟨s1, s2, s3⟩ := pls_small hh
  refine SmA.al (ds := [.int (h.hands : Int), .tuple [plsE h.boxes, plsE h.things, plsE h.seals]]) ?_
  unfold SmA
  refine ⟨sm_i (by omega), ?_⟩
  unfold SmA
  refine ⟨sm_3 (n := 3) (sm_pls (by omega) s1) (sm_pls (by omega) s2) (sm_pls (by omega) s3), ?_⟩
  unfold SmA
  trivial
def Wsrc (hA hL : Addr) : Wd where
  M := fun a => a = hA ∨ a = hL
  O := fun _ => False
  S := fun H => Src H hA hL
  lst := fun H a s m => by
    obtain ⟨st, ix, ns, h1, h2, _⟩ := s.ex
    rcases m with rfl | rfl
    · exact ⟨_, h1⟩
    · exact ⟨_, h2⟩
  tr := fun _ _ _ z => z.elim
  mono := fun H H' s k => by
    obtain ⟨st, ix, ns, h1, h2, h3, h4⟩ := s.ex
    exact ⟨⟨st, ix, ns, k _ _ (.inl (.inl rfl)) h1, k _ _ (.inl (.inr rfl)) h2, h3, h4⟩, s.ne⟩
theorem wsrc (hA hL : Addr) : SrcW (Wsrc hA hL) hA hL := ⟨.inl rfl, .inr rfl, fun _ s => s, fun _ _ _ _ s => s⟩
section
variable {P : Program} {w : World} {K : Frag} {mg : Str → Option Value} {base : Heap}
abbrev s_law : Stmt := topS 81
abbrev N_law : List Str := ["_law_script", "_law_h", "_law_turn", "_law_drawn_here", "_law_rows_here", "_law_log", "_law_text", "_law_found"]
theorem sc_law : FnScope N_law ["_law_script"] (defScope s_law) := ⟨rfl, rfl, rfl, by decide +kernel, rfl, by decide +kernel, by decide +kernel⟩
def spLaw (K : Frag) : Sp := fun vs H Q _ => ∃ (a : Addr) (ns : List Int), vs = [.ref a] ∧ SqL K H a (ns.map V.int) ∧ ns.length ≤ 63 ∧ ∀ H', Q (.bl true) H'
/-- by heaps, of the function object that is told -/
theorem okHf {x qual : Str} {params : Arguments} {body : List Stmt} {scope : Scope} {at_ : Str × Option Str} {N ps : List Str} {k : Nat} {sp : Sp} {fd : FuncData} (F : FunD K x qual params body scope [] [] (He.fAd K at_) fd) (S : FnScope N ps scope)
    (hl : ∀ vs H Q E, sp vs H Q E → vs.length = ps.length)
    (hb : ∀ (f : Addr) (cdv : Value) (A : Around) (outer : List Env) (s : Shared) (H : Hp) (E : XK), Room k (A.deeper (envOfC qual scope s.heap.objs.size f cdv)) → ∀ vs Q, sp vs H Q E →
      ∃ t, PSs (cxOf CX0 P w K mg base N qual scope f cdv A outer s H E).nox body t ∧ t { nx := fun _ H' => Q .non H', rt := Q } (L2.start N vs) H) : FnOk P w K mg base CX0 (k + 1) (He.fAd K at_) fd ps sp :=
  F.ok S hl fun cdv A outer s H vs Q E hr hs => by
    obtain ⟨t, h1, h2⟩ := hb _ cdv A outer s H E hr vs Q hs
    exact ⟨t, h1.nox, h2⟩
theorem ok_law (T : Tx K mg) (T2 : Tx2 w K) (T3 : Tx3 w K) {fd : FuncData} (F : FunD K "law" "law" (defArgs s_law) (defBody s_law) (defScope s_law) [] [] (He.fAd K ("law", none)) fd) : FnOk P w K mg base CX0 12 (He.fAd K ("law", none)) fd ["_law_script"] (spLaw K) := by
  have f__law_mix : Ok P w K mg base 1 ("_law_mix", none) ["_law_script", "_law_seed"] (spMix K) := ok_mix T
  have f__law_drawn := ok_drawn (P := P) (w := w) (base := base) T
  have f__law_rows := ok_rows (P := P) (w := w) (base := base) T
  have f__law_next : Ok P w K mg base 1 ("_law_next", none) ["_law_h", "_law_limit"] (spD K preNext) := ok_next T
  have f__law_house : Ok P w K mg base 6 ("_law_house", none) ["_law_drawn_here"] (spD K (preLH K)) := ok_lh T
  have f__law_lines : Ok P w K mg base 6 ("_law_lines", none) ["_law_drawn_here", "_law_rows_here"] (spD K preLL) := ok_ll T
  have f__law_alike := ok_alike (P := P) (w := w) (base := base) T 5
  have f_format_log : Ok P w K mg base 6 ("format_log", none) ["log"] (spD K (preFmt K)) := ok_fmt T
  have f_parse_log : Ok P w K mg base 11 ("parse_log", none) ["text"] (spPL K) := ok_pl T T3
  have f_Log___init__ : Ok P w K mg base 8 ("Log", some "__init__") ["self", "house", "rows"] (spLog K) := ok_Log T
  have f_Log___eq__ : Ok P w K mg base 4 ("Log", some "__eq__") ["self", "other"] (spD K (preEqL K)) := ok_eqL T T2
  have f_Log_house := ok_L_house (P := P) (w := w) (base := base) T
  have f_Log_rows := ok_L_rows (P := P) (w := w) (base := base) T
  have f_House_hands := ok_H_hands (P := P) (w := w) (base := base) T
  have f_House_state := ok_H_state (P := P) (w := w) (base := base) T
  refine okHf F sc_law (fun vs H Q E ⟨_, _, e, _⟩ => by rw [e]; rfl) fun f cdv Ar outer s H E hr vs Q ⟨a, ns, e, hs, hl, q⟩ => ?_
  subst e
  refine ⟨_, (pss_cons (ps_set (i := 1) sc_law.nd rfl (Or.inl rfl) (pe_cf f__law_mix (hr.mono (by decide)) T.g__law_mix (pa_cons (pv 0) (pa_cons pe_int pa_nil))))
      (pss_cons (ps_for PassesOwn.never rfl (pi_range1 rfl T.b_range (pa_cons pe_int pa_nil)) (pg_name (i := 2) sc_law.nd rfl (Or.inl rfl)) (pss_cons (ps_set (i := 3) sc_law.nd rfl (Or.inl rfl) (pe_cf f__law_drawn (hr.mono (by decide)) T.g__law_drawn (pa_cons (pv 1) (pa_cons pe_int pa_nil))))
      (pss_cons (ps_set (i := 4) sc_law.nd rfl (Or.inl rfl) (pe_cf f__law_rows (hr.mono (by decide)) T.g__law_rows (pa_cons (pv 1) (pa_cons (pv 3) (pa_cons (pe_cf f__law_next (hr.mono (by decide)) T.g__law_next (pa_cons (pv 1) (pa_cons pe_int pa_nil))) pa_nil)))))
      (pss_cons (ps_par (i := 5) (j := 6) (by rfl) sc_law.nd rfl rfl (by decide) rfl rfl (pa_cons (pe_mkO T.m_Log f_Log___init__ (hr.mono (by decide)) T.g_Log (pa_cons (pe_cf f__law_house (hr.mono (by decide)) T.g__law_house (pa_cons (pv 3) pa_nil)) (pa_cons (pe_callTy (call_tupleK K) (by rfl) T.b_tuple (by decide +kernel) (pa_cons (pv 4) pa_nil)) pa_nil))) (pa_cons (pe_joinK K pe_str (pe_cf f__law_lines (hr.mono (by decide)) T.g__law_lines (pa_cons (pv 3) (pa_cons (pv 4) pa_nil)))) pa_nil)) (by rfl))
      (pss_cons (ps_if (pt_not (pt_val (pe_cf f__law_alike (hr.mono (by decide)) T.g__law_alike (pa_cons (pe_cf f_format_log (hr.mono (by decide)) T.g_format_log (pa_cons (pv 5) pa_nil)) (pa_cons (pv 6) pa_nil))))) (pss_one (ps_ret pe_bl)) pss_nil)
      (pss_cons (ps_set (i := 7) sc_law.nd rfl (Or.inl rfl) (pe_cf f_parse_log (hr.mono (by decide)) T.g_parse_log (pa_cons (pv 6) pa_nil)))
      (pss_cons (ps_if (PW.pt (pw_or (pt_not (pt_val (pe_callB (call_isiK' K) (by rfl) T.b_isinstance (by decide +kernel) (pa_cons (pv 7) (pa_cons (pe_gR T.g_Log) pa_nil))))) (pw_or (pt_cmpR (op_neOk f_Log___eq__ (hr.mono (by decide)) T.m_Log___eq__ insF_eqL T2.ne_Log T2.ic_Log) (pv 7) (pv 5) (nomark _)) (pw_or1 (pt_not (pt_val (pe_cf f__law_alike (hr.mono (by decide)) T.g__law_alike (pa_cons (pe_callTy (call_listK K) (by rfl) T.b_list (by decide +kernel) (pa_cons (pe_pr f_Log_rows T.c_Log (hr.mono (by decide)) (pv 7)) pa_nil)) (pa_cons (pv 4) pa_nil))))))))) (pss_one (ps_ret pe_bl)) pss_nil)
      (pss_one (ps_if (pt_not (pt_val (pe_cf f__law_alike (hr.mono (by decide)) T.g__law_alike (pa_cons (pe_lst (pa_cons (pe_pr f_House_hands T.c_House (hr.mono (by decide)) (pe_pr f_Log_house T.c_Log (hr.mono (by decide)) (pv 7))) (pa_cons (pe_pr f_House_state T.c_House (hr.mono (by decide)) (pe_pr f_Log_house T.c_Log (hr.mono (by decide)) (pv 7))) pa_nil))) (pa_cons (pe_lst (pa_cons (pe_ix (ix_tupK K) (pv 3) pe_int (fun _ _ => rfl)) (pa_cons (pe_tup (pa_cons (pe_ix (ix_tupK K) (pv 3) pe_int (fun _ _ => rfl)) (pa_cons (pe_ix (ix_tupK K) (pv 3) pe_int (fun _ _ => rfl)) (pa_cons (pe_ix (ix_tupK K) (pv 3) pe_int (fun _ _ => rfl)) pa_nil)))) pa_nil))) pa_nil))))) (pss_one (ps_ret pe_bl)) pss_nil)))))))))
      (pss_one (ps_ret pe_bl)))), ?_⟩
  refine ⟨_, rfl, a, 47, ns, rfl, hs, hl, fun hA hL H1 sm hA0 hL0 sr => ?_⟩
  have sw := wsrc hA hL
  dsimp only [gName]
  refine raw_sdW (K := K) (W := Wsrc hA hL) (Γ := [some (.v (.ref a)), some (.v (.ref hA)), none, none, none, none, none, none]) (N := fun _ => False) (R := fun r => r = .d (.bool true)) (show (Wsrc hA hL).S H1 from sr) ?_ ?_ (fun _ _ _ _ _ z => z.elim) (fun v H' r _ hv e => ?_)
  · refine sd_seq ?_
    refine sd_forRx ?_
    walk_at "eds"
    refine ⟨fun i Γ' => ∃ y2 y3 y4 y5 y6 y7, Γ' = [some (.v (.ref a)), some (.v (.ref hA)), y2, y3, y4, y5, y6, y7], ⟨_, _, _, _, _, _, rfl⟩, fun i Γ' hi ⟨y2, y3, y4, y5, y6, y7, e⟩ => ?_, fun Γ' ⟨y2, y3, y4, y5, y6, y7, e⟩ => ?_⟩
    · subst e
      walk_at "eds"
      refine ⟨hA, hL, rfl, sw, fun h hh => ?_⟩
      walk_at "eds"
      refine ⟨hA, hL, 8, rfl, sw, by decide, by decide, fun r hr8 => ?_⟩
      walk_at "eds"
      refine ⟨hA, hL, h, r, rfl, sw, hh, by omega, fun p rs hl8 hrs => ?_⟩
      walk_at "eds"
      refine ed_log ?_
      walk_at "eds"
      refine ⟨hh, fun _ => ?_⟩
      walk_at "eds"
      refine ⟨h, rs, _, rfl, .inl rfl, by omega, hrs, ?_⟩
      walk_at "eds"
      refine ed_join ?_
      walk_at "eds"
      refine ⟨⟨hh, hrs, by omega⟩, fun p2 hp2 => ?_⟩
      refine ⟨p2, allLines h rs, rfl, text_ok hh hrs (by omega), ?_⟩
      walk_at "eds"
      refine ⟨⟨hh, hrs, by omega⟩, fun _ => ?_⟩
      walk_at "eds"
      refine ⟨.inl ⟨_, rfl, (by unfold AlD; exact trivial)⟩, fun _ => ?_⟩
      walk_at "eds"
      refine ed_pl ?_
      walk_at "eds"
      refine ⟨h, rs, _, _, _, rfl, text_back hh hrs (by omega), ?_⟩
      walk_at "eds"
      refine ed_raw ?_
      walk_at "eds"
      refine cd_isiC T2.ic_Log insL ?_
      walk_at "eds"
      refine rd_neO insL ⟨h, rs, rfl, _, rfl, ?_⟩
      walk_at "eds"
      refine ⟨insL, h, rs, rfl, fun _ => ?_⟩
      walk_at "eds"
      refine cd_listT fun p3 hp3 => ?_
      walk_at "eds"
      refine ⟨.inr ⟨_, _, rs.map Rw.e, 4, rfl, rfl, by rw [List.length_map]; omega, SmA.al (smA_map fun r hr => sm_rw hh (hrs r hr))⟩, fun _ => ?_⟩
      walk_at "eds"
      refine ⟨insL, h, rs, rfl, fun _ => ⟨_, rfl, insH, ?_⟩⟩
      walk_at "eds"
      refine ⟨insL, h, rs, rfl, fun _ => ⟨_, rfl, insH, ?_⟩⟩
      walk_at "eds"
      refine ⟨.inr ⟨_, _, [.int (h.hands : Int), .tuple [plsE h.boxes, plsE h.things, plsE h.seals]], 4, rfl, rfl, by show 2 ≤ 1000; decide, al_parts hh⟩, fun _ => ?_⟩
      walk_at "eds"
      exact ⟨_, _, _, _, _, _, rfl⟩
    · subst e
      walk_at "eds"
      rfl
  · refine ⟨rfl, fun i b hb => ?_⟩
    match i, hb with
    | 0, hb => cases hb; exact ⟨_, rfl, rfl⟩
    | 1, hb => cases hb; exact ⟨_, rfl, rfl⟩
    | 2, hb => cases hb
    | 3, hb => cases hb
    | 4, hb => cases hb
    | 5, hb => cases hb
    | 6, hb => cases hb
    | 7, hb => cases hb
    | n + 8, hb => cases hb
  · subst e
    have hv : Rt K H' v (.bool true) := hv
    cases hv
    exact q H'
end
end Q47
set_option maxHeartbeats 4000000
/-! ### the facts by names (printed by gentx.py) -/
namespace Q47
open PySem PySem.Spec PyProof.Rows L2
open PySem.W (Frag)
theorem mem_fa {f : He.Fa} {l : List He.Fa} (h : f ∈ l) (hl : ∀ f ∈ l, f ∈ fa) : f ∈ fa := hl f h
theorem in_fa0 : ∀ f ∈ fa0, f ∈ fa := fun f h => by unfold fa; simp only [List.mem_append, h, true_or, or_true]
theorem in_fa1 : ∀ f ∈ fa1, f ∈ fa := fun f h => by unfold fa; simp only [List.mem_append, h, true_or, or_true]
theorem in_fa2 : ∀ f ∈ fa2, f ∈ fa := fun f h => by unfold fa; simp only [List.mem_append, h, true_or, or_true]
theorem in_fa3 : ∀ f ∈ fa3, f ∈ fa := fun f h => by unfold fa; simp only [List.mem_append, h, true_or, or_true]
theorem in_fa4 : ∀ f ∈ fa4, f ∈ fa := fun f h => by unfold fa; simp only [List.mem_append, h, true_or, or_true]
theorem in_fa5 : ∀ f ∈ fa5, f ∈ fa := fun f h => by unfold fa; simp only [List.mem_append, h, true_or, or_true]
theorem in_fa6 : ∀ f ∈ fa6, f ∈ fa := fun f h => by unfold fa; simp only [List.mem_append, h, true_or, or_true]
theorem in_fa7 : ∀ f ∈ fa7, f ∈ fa := fun f h => by unfold fa; simp only [List.mem_append, h, true_or, or_true]
theorem in_fa8 : ∀ f ∈ fa8, f ∈ fa := fun f h => by unfold fa; simp only [List.mem_append, h, true_or, or_true]
theorem tx_of {K : Frag} {h : Heap} {mg : Str → Option Value} {w : World} (X : K.In h) (G : h.Ns mainGlobals mg) (c : obsP fa fn ts gs exB K = valP fn ts gs w) : Tx K mg ∧ Tx2 w K ∧ Tx3 w K := by
  have t := says_t c
  have d := t.d
  have e : exB K = true := says_ex c
  obtain ⟨e1, e⟩ := He.ba e
  obtain ⟨e2, e⟩ := He.ba e
  obtain ⟨e3, e⟩ := He.ba e
  obtain ⟨e4, e⟩ := He.ba e
  obtain ⟨e, eS⟩ := He.ba e
  obtain ⟨e, eR⟩ := He.ba e
  obtain ⟨eD, eP⟩ := He.ba e
  refine ⟨{
    b_len := He.free_ok X G (d.facts (in_fa0 _ (List.mem_of_getElem? (i := 0) (a := (.free "len" : He.Fa)) rfl)))
    b_int := He.free_ok X G (d.facts (in_fa0 _ (List.mem_of_getElem? (i := 1) (a := (.free "int" : He.Fa)) rfl)))
    b_range := He.free_ok X G (d.facts (in_fa0 _ (List.mem_of_getElem? (i := 2) (a := (.free "range" : He.Fa)) rfl)))
    b_list := He.free_ok X G (d.facts (in_fa0 _ (List.mem_of_getElem? (i := 3) (a := (.free "list" : He.Fa)) rfl)))
    b_tuple := He.free_ok X G (d.facts (in_fa0 _ (List.mem_of_getElem? (i := 4) (a := (.free "tuple" : He.Fa)) rfl)))
    b_str := He.free_ok X G (d.facts (in_fa0 _ (List.mem_of_getElem? (i := 5) (a := (.free "str" : He.Fa)) rfl)))
    b_isinstance := He.free_ok X G (d.facts (in_fa0 _ (List.mem_of_getElem? (i := 6) (a := (.free "isinstance" : He.Fa)) rfl)))
    b_sorted := He.free_ok X G (d.facts (in_fa0 _ (List.mem_of_getElem? (i := 7) (a := (.free "sorted" : He.Fa)) rfl)))
    b_max := He.free_ok X G (d.facts (in_fa0 _ (List.mem_of_getElem? (i := 8) (a := (.free "max" : He.Fa)) rfl)))
    b_enumerate := He.free_ok X G (d.facts (in_fa0 _ (List.mem_of_getElem? (i := 9) (a := (.free "enumerate" : He.Fa)) rfl)))
    b_bool := He.free_ok X G (d.facts (in_fa0 _ (List.mem_of_getElem? (i := 10) (a := (.free "bool" : He.Fa)) rfl)))
    b_dict := He.free_ok X G (d.facts (in_fa0 _ (List.mem_of_getElem? (i := 11) (a := (.free "dict" : He.Fa)) rfl)))
    s_BOX := He.str_ok X G (d.facts (in_fa1 _ (List.mem_of_getElem? (i := 0) (a := (.str "BOX" "box" : He.Fa)) rfl)))
    s_BREAK := He.str_ok X G (d.facts (in_fa1 _ (List.mem_of_getElem? (i := 1) (a := (.str "BREAK" "break" : He.Fa)) rfl)))
    s_DIGITS := He.str_ok X G (d.facts (in_fa1 _ (List.mem_of_getElem? (i := 2) (a := (.str "DIGITS" "0123456789" : He.Fa)) rfl)))
    s_GAP := He.str_ok X G (d.facts (in_fa1 _ (List.mem_of_getElem? (i := 3) (a := (.str "GAP" "gap" : He.Fa)) rfl)))
    s_GIVE := He.str_ok X G (d.facts (in_fa1 _ (List.mem_of_getElem? (i := 4) (a := (.str "GIVE" "give" : He.Fa)) rfl)))
    s_GONE := He.str_ok X G (d.facts (in_fa1 _ (List.mem_of_getElem? (i := 5) (a := (.str "GONE" "gone" : He.Fa)) rfl)))
    s_HAND := He.str_ok X G (d.facts (in_fa1 _ (List.mem_of_getElem? (i := 6) (a := (.str "HAND" "hand" : He.Fa)) rfl)))
    s_HANDS := He.str_ok X G (d.facts (in_fa1 _ (List.mem_of_getElem? (i := 7) (a := (.str "HANDS" "hands" : He.Fa)) rfl)))
    s_LOG := He.str_ok X G (d.facts (in_fa1 _ (List.mem_of_getElem? (i := 8) (a := (.str "LOG" "log" : He.Fa)) rfl)))
    s_PUT := He.str_ok X G (d.facts (in_fa1 _ (List.mem_of_getElem? (i := 9) (a := (.str "PUT" "put" : He.Fa)) rfl)))
    s_SEAL := He.str_ok X G (d.facts (in_fa1 _ (List.mem_of_getElem? (i := 10) (a := (.str "SEAL" "seal" : He.Fa)) rfl)))
    s_SEAL_ON := He.str_ok X G (d.facts (in_fa1 _ (List.mem_of_getElem? (i := 11) (a := (.str "SEAL_ON" "seal" : He.Fa)) rfl)))
    s_TAKE := He.str_ok X G (d.facts (in_fa2 _ (List.mem_of_getElem? (i := 0) (a := (.str "TAKE" "take" : He.Fa)) rfl)))
    s_THING := He.str_ok X G (d.facts (in_fa2 _ (List.mem_of_getElem? (i := 1) (a := (.str "THING" "thing" : He.Fa)) rfl)))
    i_MAX_BOXES := He.int_ok X G (d.facts (in_fa2 _ (List.mem_of_getElem? (i := 2) (a := (.int "MAX_BOXES" 3 : He.Fa)) rfl)))
    i_MAX_HANDS := He.int_ok X G (d.facts (in_fa2 _ (List.mem_of_getElem? (i := 3) (a := (.int "MAX_HANDS" 4 : He.Fa)) rfl)))
    i_MAX_ROWS := He.int_ok X G (d.facts (in_fa2 _ (List.mem_of_getElem? (i := 4) (a := (.int "MAX_ROWS" 30 : He.Fa)) rfl)))
    i_MAX_SEALS := He.int_ok X G (d.facts (in_fa2 _ (List.mem_of_getElem? (i := 5) (a := (.int "MAX_SEALS" 3 : He.Fa)) rfl)))
    i_MAX_THINGS := He.int_ok X G (d.facts (in_fa2 _ (List.mem_of_getElem? (i := 6) (a := (.int "MAX_THINGS" 4 : He.Fa)) rfl)))
    g_is_number := He.glo_ok X G (d.facts (in_fa2 _ (List.mem_of_getElem? (i := 7) (a := (.glo "is_number" : He.Fa)) rfl)))
    g_validate_hands := He.glo_ok X G (d.facts (in_fa2 _ (List.mem_of_getElem? (i := 8) (a := (.glo "validate_hands" : He.Fa)) rfl)))
    g_validate_hand := He.glo_ok X G (d.facts (in_fa2 _ (List.mem_of_getElem? (i := 9) (a := (.glo "validate_hand" : He.Fa)) rfl)))
    g_validate_box := He.glo_ok X G (d.facts (in_fa2 _ (List.mem_of_getElem? (i := 10) (a := (.glo "validate_box" : He.Fa)) rfl)))
    g_validate_seal := He.glo_ok X G (d.facts (in_fa2 _ (List.mem_of_getElem? (i := 11) (a := (.glo "validate_seal" : He.Fa)) rfl)))
    g_validate_item := He.glo_ok X G (d.facts (in_fa3 _ (List.mem_of_getElem? (i := 0) (a := (.glo "validate_item" : He.Fa)) rfl)))
    g_validate_movable := He.glo_ok X G (d.facts (in_fa3 _ (List.mem_of_getElem? (i := 1) (a := (.glo "validate_movable" : He.Fa)) rfl)))
    g_validate_deed := He.glo_ok X G (d.facts (in_fa3 _ (List.mem_of_getElem? (i := 2) (a := (.glo "validate_deed" : He.Fa)) rfl)))
    g_validate_sight := He.glo_ok X G (d.facts (in_fa3 _ (List.mem_of_getElem? (i := 3) (a := (.glo "validate_sight" : He.Fa)) rfl)))
    g_validate_contents := He.glo_ok X G (d.facts (in_fa3 _ (List.mem_of_getElem? (i := 4) (a := (.glo "validate_contents" : He.Fa)) rfl)))
    g_validate_row := He.glo_ok X G (d.facts (in_fa3 _ (List.mem_of_getElem? (i := 5) (a := (.glo "validate_row" : He.Fa)) rfl)))
    g_words_of := He.glo_ok X G (d.facts (in_fa3 _ (List.mem_of_getElem? (i := 6) (a := (.glo "words_of" : He.Fa)) rfl)))
    g_house_rows := He.glo_ok X G (d.facts (in_fa3 _ (List.mem_of_getElem? (i := 7) (a := (.glo "house_rows" : He.Fa)) rfl)))
    g_format_log := He.glo_ok X G (d.facts (in_fa3 _ (List.mem_of_getElem? (i := 8) (a := (.glo "format_log" : He.Fa)) rfl)))
    g_is_number_word := He.glo_ok X G (d.facts (in_fa3 _ (List.mem_of_getElem? (i := 9) (a := (.glo "is_number_word" : He.Fa)) rfl)))
    g_lines_of := He.glo_ok X G (d.facts (in_fa3 _ (List.mem_of_getElem? (i := 10) (a := (.glo "lines_of" : He.Fa)) rfl)))
    g_read_house := He.glo_ok X G (d.facts (in_fa3 _ (List.mem_of_getElem? (i := 11) (a := (.glo "read_house" : He.Fa)) rfl)))
    g_read_row := He.glo_ok X G (d.facts (in_fa4 _ (List.mem_of_getElem? (i := 0) (a := (.glo "read_row" : He.Fa)) rfl)))
    g_parse_log := He.glo_ok X G (d.facts (in_fa4 _ (List.mem_of_getElem? (i := 1) (a := (.glo "parse_log" : He.Fa)) rfl)))
    g__law_mix := He.glo_ok X G (d.facts (in_fa4 _ (List.mem_of_getElem? (i := 2) (a := (.glo "_law_mix" : He.Fa)) rfl)))
    g__law_next := He.glo_ok X G (d.facts (in_fa4 _ (List.mem_of_getElem? (i := 3) (a := (.glo "_law_next" : He.Fa)) rfl)))
    g__law_alike := He.glo_ok X G (d.facts (in_fa4 _ (List.mem_of_getElem? (i := 4) (a := (.glo "_law_alike" : He.Fa)) rfl)))
    g__law_place := He.glo_ok X G (d.facts (in_fa4 _ (List.mem_of_getElem? (i := 5) (a := (.glo "_law_place" : He.Fa)) rfl)))
    g__law_moved := He.glo_ok X G (d.facts (in_fa4 _ (List.mem_of_getElem? (i := 6) (a := (.glo "_law_moved" : He.Fa)) rfl)))
    g__law_lid := He.glo_ok X G (d.facts (in_fa4 _ (List.mem_of_getElem? (i := 7) (a := (.glo "_law_lid" : He.Fa)) rfl)))
    g__law_inside := He.glo_ok X G (d.facts (in_fa4 _ (List.mem_of_getElem? (i := 8) (a := (.glo "_law_inside" : He.Fa)) rfl)))
    g__law_items := He.glo_ok X G (d.facts (in_fa4 _ (List.mem_of_getElem? (i := 9) (a := (.glo "_law_items" : He.Fa)) rfl)))
    g__law_drawn := He.glo_ok X G (d.facts (in_fa4 _ (List.mem_of_getElem? (i := 10) (a := (.glo "_law_drawn" : He.Fa)) rfl)))
    g__law_house := He.glo_ok X G (d.facts (in_fa4 _ (List.mem_of_getElem? (i := 11) (a := (.glo "_law_house" : He.Fa)) rfl)))
    g__law_may := He.glo_ok X G (d.facts (in_fa5 _ (List.mem_of_getElem? (i := 0) (a := (.glo "_law_may" : He.Fa)) rfl)))
    g__law_done := He.glo_ok X G (d.facts (in_fa5 _ (List.mem_of_getElem? (i := 1) (a := (.glo "_law_done" : He.Fa)) rfl)))
    g__law_known := He.glo_ok X G (d.facts (in_fa5 _ (List.mem_of_getElem? (i := 2) (a := (.glo "_law_known" : He.Fa)) rfl)))
    g__law_true := He.glo_ok X G (d.facts (in_fa5 _ (List.mem_of_getElem? (i := 3) (a := (.glo "_law_true" : He.Fa)) rfl)))
    g__law_sight := He.glo_ok X G (d.facts (in_fa5 _ (List.mem_of_getElem? (i := 4) (a := (.glo "_law_sight" : He.Fa)) rfl)))
    g__law_rows := He.glo_ok X G (d.facts (in_fa5 _ (List.mem_of_getElem? (i := 5) (a := (.glo "_law_rows" : He.Fa)) rfl)))
    g__law_words := He.glo_ok X G (d.facts (in_fa5 _ (List.mem_of_getElem? (i := 6) (a := (.glo "_law_words" : He.Fa)) rfl)))
    g__law_lines := He.glo_ok X G (d.facts (in_fa5 _ (List.mem_of_getElem? (i := 7) (a := (.glo "_law_lines" : He.Fa)) rfl)))
    g_law := He.glo_ok X G (d.facts (in_fa5 _ (List.mem_of_getElem? (i := 8) (a := (.glo "law" : He.Fa)) rfl)))
    g_House := He.glo_ok X G (d.facts (in_fa5 _ (List.mem_of_getElem? (i := 9) (a := (.glo "House" : He.Fa)) rfl)))
    g_Log := He.glo_ok X G (d.facts (in_fa5 _ (List.mem_of_getElem? (i := 10) (a := (.glo "Log" : He.Fa)) rfl)))
    g_Line := He.glo_ok X G (d.facts (in_fa5 _ (List.mem_of_getElem? (i := 11) (a := (.glo "Line" : He.Fa)) rfl)))
    g_DEEDS := He.glo_ok X G (d.facts (in_fa6 _ (List.mem_of_getElem? (i := 0) (a := (.glo "DEEDS" : He.Fa)) rfl)))
    g_PARTS := He.glo_ok X G (d.facts (in_fa6 _ (List.mem_of_getElem? (i := 1) (a := (.glo "PARTS" : He.Fa)) rfl)))
    g_ROWS := He.glo_ok X G (d.facts (in_fa6 _ (List.mem_of_getElem? (i := 2) (a := (.glo "ROWS" : He.Fa)) rfl)))
    g_SIGHTS := He.glo_ok X G (d.facts (in_fa6 _ (List.mem_of_getElem? (i := 3) (a := (.glo "SIGHTS" : He.Fa)) rfl)))
    g_FORMS := He.glo_ok X G (d.facts (in_fa6 _ (List.mem_of_getElem? (i := 4) (a := (.glo "FORMS" : He.Fa)) rfl)))
    c_House := He.cls_ok (d.facts (in_fa6 _ (List.mem_of_getElem? (i := 5) (a := (.cls "House" : He.Fa)) rfl)))
    m_House := He.mkr_ok (d.facts (in_fa6 _ (List.mem_of_getElem? (i := 6) (a := (.mkr "House" : He.Fa)) rfl)))
    n_House_hand_count := He.noat_ok (d.facts (in_fa6 _ (List.mem_of_getElem? (i := 7) (a := (.noat "House" "hand_count" : He.Fa)) rfl)))
    n_House_box_places := He.noat_ok (d.facts (in_fa6 _ (List.mem_of_getElem? (i := 8) (a := (.noat "House" "box_places" : He.Fa)) rfl)))
    n_House_thing_places := He.noat_ok (d.facts (in_fa6 _ (List.mem_of_getElem? (i := 9) (a := (.noat "House" "thing_places" : He.Fa)) rfl)))
    n_House_seal_places := He.noat_ok (d.facts (in_fa6 _ (List.mem_of_getElem? (i := 10) (a := (.noat "House" "seal_places" : He.Fa)) rfl)))
    m_House___init__ := He.meth_ok (d.facts (in_fa6 _ (List.mem_of_getElem? (i := 11) (a := (.meth "House" "__init__" : He.Fa)) rfl)))
    m_House_validate_places := He.meth_ok (d.facts (in_fa7 _ (List.mem_of_getElem? (i := 0) (a := (.meth "House" "validate_places" : He.Fa)) rfl)))
    m_House_is_place := He.meth_ok (d.facts (in_fa7 _ (List.mem_of_getElem? (i := 1) (a := (.meth "House" "is_place" : He.Fa)) rfl)))
    m_House___contains__ := He.meth_ok (d.facts (in_fa7 _ (List.mem_of_getElem? (i := 2) (a := (.meth "House" "__contains__" : He.Fa)) rfl)))
    m_House___eq__ := He.meth_ok (d.facts (in_fa7 _ (List.mem_of_getElem? (i := 3) (a := (.meth "House" "__eq__" : He.Fa)) rfl)))
    c_Log := He.cls_ok (d.facts (in_fa7 _ (List.mem_of_getElem? (i := 4) (a := (.cls "Log" : He.Fa)) rfl)))
    m_Log := He.mkr_ok (d.facts (in_fa7 _ (List.mem_of_getElem? (i := 5) (a := (.mkr "Log" : He.Fa)) rfl)))
    n_Log_own_house := He.noat_ok (d.facts (in_fa7 _ (List.mem_of_getElem? (i := 6) (a := (.noat "Log" "own_house" : He.Fa)) rfl)))
    n_Log_own_rows := He.noat_ok (d.facts (in_fa7 _ (List.mem_of_getElem? (i := 7) (a := (.noat "Log" "own_rows" : He.Fa)) rfl)))
    m_Log___init__ := He.meth_ok (d.facts (in_fa7 _ (List.mem_of_getElem? (i := 8) (a := (.meth "Log" "__init__" : He.Fa)) rfl)))
    m_Log___eq__ := He.meth_ok (d.facts (in_fa7 _ (List.mem_of_getElem? (i := 9) (a := (.meth "Log" "__eq__" : He.Fa)) rfl)))
    c_Line := He.cls_ok (d.facts (in_fa7 _ (List.mem_of_getElem? (i := 10) (a := (.cls "Line" : He.Fa)) rfl)))
    m_Line := He.mkr_ok (d.facts (in_fa7 _ (List.mem_of_getElem? (i := 11) (a := (.mkr "Line" : He.Fa)) rfl)))
    n_Line_number := He.noat_ok (d.facts (in_fa8 _ (List.mem_of_getElem? (i := 0) (a := (.noat "Line" "number" : He.Fa)) rfl)))
    n_Line_words := He.noat_ok (d.facts (in_fa8 _ (List.mem_of_getElem? (i := 1) (a := (.noat "Line" "words" : He.Fa)) rfl)))
    n_Line_at := He.noat_ok (d.facts (in_fa8 _ (List.mem_of_getElem? (i := 2) (a := (.noat "Line" "at" : He.Fa)) rfl)))
    m_Line___init__ := He.meth_ok (d.facts (in_fa8 _ (List.mem_of_getElem? (i := 3) (a := (.meth "Line" "__init__" : He.Fa)) rfl)))
    m_Line_is_over := He.meth_ok (d.facts (in_fa8 _ (List.mem_of_getElem? (i := 4) (a := (.meth "Line" "is_over" : He.Fa)) rfl)))
    m_Line_take_word := He.meth_ok (d.facts (in_fa8 _ (List.mem_of_getElem? (i := 5) (a := (.meth "Line" "take_word" : He.Fa)) rfl)))
    m_Line_take_number := He.meth_ok (d.facts (in_fa8 _ (List.mem_of_getElem? (i := 6) (a := (.meth "Line" "take_number" : He.Fa)) rfl)))
    m_Line_take_pair := He.meth_ok (d.facts (in_fa8 _ (List.mem_of_getElem? (i := 7) (a := (.meth "Line" "take_pair" : He.Fa)) rfl)))
    m_Line_take_many := He.meth_ok (d.facts (in_fa8 _ (List.mem_of_getElem? (i := 8) (a := (.meth "Line" "take_many" : He.Fa)) rfl)))
    m_Line_take_part := He.meth_ok (d.facts (in_fa8 _ (List.mem_of_getElem? (i := 9) (a := (.meth "Line" "take_part" : He.Fa)) rfl)))
    m_Line_take_row := He.meth_ok (d.facts (in_fa8 _ (List.mem_of_getElem? (i := 10) (a := (.meth "Line" "take_row" : He.Fa)) rfl)))
    m_Line_end := He.meth_ok (d.facts (in_fa8 _ (List.mem_of_getElem? (i := 11) (a := (.meth "Line" "end" : He.Fa)) rfl)))
    t_DEEDS := (tpA_ok eD).1
    t_PARTS := (tpA_ok eP).1
    t_ROWS := (tpA_ok eR).1
    t_SIGHTS := (tpA_ok eS).1
    d_is_number := d.def_ 0 (d := dd_is_number) rfl
    d_validate_hands := d.def_ 1 (d := dd_validate_hands) rfl
    d_validate_hand := d.def_ 2 (d := dd_validate_hand) rfl
    d_validate_box := d.def_ 3 (d := dd_validate_box) rfl
    d_validate_seal := d.def_ 4 (d := dd_validate_seal) rfl
    d_validate_item := d.def_ 5 (d := dd_validate_item) rfl
    d_validate_movable := d.def_ 6 (d := dd_validate_movable) rfl
    d_validate_deed := d.def_ 7 (d := dd_validate_deed) rfl
    d_validate_sight := d.def_ 8 (d := dd_validate_sight) rfl
    d_validate_contents := d.def_ 9 (d := dd_validate_contents) rfl
    d_validate_row := d.def_ 10 (d := dd_validate_row) rfl
    d_words_of := d.def_ 11 (d := dd_words_of) rfl
    d_house_rows := d.def_ 12 (d := dd_house_rows) rfl
    d_format_log := d.def_ 13 (d := dd_format_log) rfl
    d_is_number_word := d.def_ 14 (d := dd_is_number_word) rfl
    d_lines_of := d.def_ 15 (d := dd_lines_of) rfl
    d_read_house := d.def_ 16 (d := dd_read_house) rfl
    d_read_row := d.def_ 17 (d := dd_read_row) rfl
    d_parse_log := d.def_ 18 (d := dd_parse_log) rfl
    d__law_mix := d.def_ 19 (d := dd__law_mix) rfl
    d__law_next := d.def_ 20 (d := dd__law_next) rfl
    d__law_alike := d.def_ 21 (d := dd__law_alike) rfl
    d__law_place := d.def_ 22 (d := dd__law_place) rfl
    d__law_moved := d.def_ 23 (d := dd__law_moved) rfl
    d__law_lid := d.def_ 24 (d := dd__law_lid) rfl
    d__law_inside := d.def_ 25 (d := dd__law_inside) rfl
    d__law_items := d.def_ 26 (d := dd__law_items) rfl
    d__law_drawn := d.def_ 27 (d := dd__law_drawn) rfl
    d__law_house := d.def_ 28 (d := dd__law_house) rfl
    d__law_may := d.def_ 29 (d := dd__law_may) rfl
    d__law_done := d.def_ 30 (d := dd__law_done) rfl
    d__law_known := d.def_ 31 (d := dd__law_known) rfl
    d__law_true := d.def_ 32 (d := dd__law_true) rfl
    d__law_sight := d.def_ 33 (d := dd__law_sight) rfl
    d__law_rows := d.def_ 34 (d := dd__law_rows) rfl
    d__law_words := d.def_ 35 (d := dd__law_words) rfl
    d__law_lines := d.def_ 36 (d := dd__law_lines) rfl
    d_law := d.def_ 37 (d := dd_law) rfl
    d_House___init__ := d.def_ 38 (d := dd_House___init__) rfl
    d_House_validate_places := d.def_ 39 (d := dd_House_validate_places) rfl
    d_House_is_place := d.def_ 40 (d := dd_House_is_place) rfl
    d_House___contains__ := d.def_ 41 (d := dd_House___contains__) rfl
    d_House___eq__ := d.def_ 42 (d := dd_House___eq__) rfl
    d_Log___init__ := d.def_ 43 (d := dd_Log___init__) rfl
    d_Log___eq__ := d.def_ 44 (d := dd_Log___eq__) rfl
    d_Line___init__ := d.def_ 45 (d := dd_Line___init__) rfl
    d_Line_is_over := d.def_ 46 (d := dd_Line_is_over) rfl
    d_Line_take_word := d.def_ 47 (d := dd_Line_take_word) rfl
    d_Line_take_number := d.def_ 48 (d := dd_Line_take_number) rfl
    d_Line_take_pair := d.def_ 49 (d := dd_Line_take_pair) rfl
    d_Line_take_many := d.def_ 50 (d := dd_Line_take_many) rfl
    d_Line_take_part := d.def_ 51 (d := dd_Line_take_part) rfl
    d_Line_take_row := d.def_ 52 (d := dd_Line_take_row) rfl
    d_Line_end := d.def_ 53 (d := dd_Line_end) rfl
    p_House_hands := says_gt c 0 (d := gg_House_hands) rfl
    p_House_boxes := says_gt c 1 (d := gg_House_boxes) rfl
    p_House_things := says_gt c 2 (d := gg_House_things) rfl
    p_House_seals := says_gt c 3 (d := gg_House_seals) rfl
    p_House_state := says_gt c 4 (d := gg_House_state) rfl
    p_Log_house := says_gt c 5 (d := gg_Log_house) rfl
    p_Log_rows := says_gt c 6 (d := gg_Log_rows) rfl
  }, ⟨icB_ok e1, icB_ok e2, He.eqO_ok e3⟩, ⟨fun x fs hm => ?_, (tpA_ok eP).2⟩⟩
  obtain ⟨es, m, D⟩ := t.tab 0 (t := (fun K => He.ga K "FORMS", fmTab.map (·.1))) rfl
  obtain ⟨q1, q2⟩ := He.ba (List.all_eq_true.mp e4 (x, fs) hm)
  exact ⟨fmA K x, ⟨es, m, .ref (fmA K x), D.at_, D.lit, He.eqO_ok q1, rfl⟩, (tpA_ok q2).1⟩
end Q47
set_option maxHeartbeats 0
/-! ### the end: the law's def by name, the statement -/
namespace Q47
open PySem PySem.Spec PyProof.Rows L2
open PySem.W (Frag)
theorem facts {P : Program} {w : World} {K : Frag} {h : Heap} {mg : Str → Option Value} {f : Addr} (X : K.In h) (G : h.Ns mainGlobals mg) (hf : mg ("law" : Str) = some (.ref f)) (c : obsP fa fn ts gs exB K = valP fn ts gs w) :
    ∃ fd : FuncData, (∀ (s : Shared) (v : Value), BindsTo s fd ⟨[v], []⟩ [("_law_script", v)]) ∧ ∀ base : Heap, K.In base → base.Ns mainGlobals mg → FnOk P w K mg base CX0 12 f fd ["_law_script"] (spLaw K) := by
  obtain ⟨T, T2, T3⟩ := tx_of X G c
  obtain ⟨fd, F⟩ := T.d_law
  have e := hf.symm.trans T.g_law
  cases e
  have b := FunD.bindsA (ps := ["_law_script"]) F fun _ _ _ _ _ _ us hl => match us, hl with | [_], _ => rfl
  exact ⟨fd, fun s v => b s [v] rfl, fun base _ _ => ok_law T T2 T3 F⟩
end Q47
open PySem PySem.W PySem.Calls PyProof.Rows
theorem PySem.Challenge.cw_sealwatch_k47_whole_texts_of_logs_holds : PySem.Challenge.rw_sealwatch_k47_whole_texts_of_logs.Holds := by
  w_on; o_law
  refine HandSHeadRun.head_any (r := OpenLaw.row PySem.Challenge.rw_sealwatch_k47_whole_texts_of_logs) (q := Q47.qv) (H := Q47.hk) (ob := Q47.ob) (M := 16000) (loose := Q47.names) (d := HandSHeadRun.topDef (OpenLaw.row PySem.Challenge.rw_sealwatch_k47_whole_texts_of_logs).prog 81) (kwd := []) Q47.ob_eq
    (by kernel_rfl) (fun s => by kernel_rfl) Q47.run (by kernel_rfl) (by kernel_rfl) (by kernel_rfl) (by rfl) (by first | assumption | decide +kernel) (by decide +kernel) ⟨rfl, rfl, rfl, rfl, rfl, by decide +kernel⟩ ?hw ?hc
  case hw => w_witness2
  case hc =>
    refine L2.walk_ofE (l := PySem.Challenge.rw_sealwatch_k47_whole_texts_of_logs) (n := 63) (k := 12) (x := "_law_script") (CX := L2.CX0) rfl (by decide) (by kernel_rfl) ⟨rfl, by decide, by decide⟩ ?F (fun _ _ _ _ z => z)
    intro w mg fa h Y G hmg0
    obtain ⟨K, KX, c⟩ := Y
    have hmg : mg ("law" : PySem.Str) = some (.ref fa) := by
      have e : (HandSHeadRun.topDef (OpenLaw.row PySem.Challenge.rw_sealwatch_k47_whole_texts_of_logs).prog 81).name = ("law" : PySem.Str) := by kernel_rfl
      rw [← e]
      exact hmg0
    obtain ⟨fd, hb, hF⟩ := Q47.facts (P := (PySem.Challenge.rw_sealwatch_k47_whole_texts_of_logs).prog) (w := w) KX G hmg c
    exact ⟨K, fd, Q47.spLaw K, KX, hb, fun H a ns hl _ hS => ⟨a, ns, rfl, hS, hl, fun _ => rfl⟩, hF⟩
