import PyProof.Rows.All
import HandS.Head0
import HandS.Head1
import HandS.Head2
import HandS.HeadEnd
import Wide.All
import OpenK.AllK
import Wide.FinOn
import HandS.ForMost
import HandS.Exc
import HandS.ExcOwn
import HandS.TryOnly
import HandS.WordsExc
import HandS.Walk
import HandS.Conv
import HandS.SortInts
import HandS.Wide
import HandS.IsInst
import HandS.Zip
import HandS.TupAny
import HandS.Evl
import HandS.HeadHook2
import HandS.HeadHook4
import HandS.Style
import HandS.ExcIs
import HandS.SetFor
import KE.DataMinMax
import HandS.HotCalls
import KE.GoesEnum
import HandS.Rev
import HandS.RevRange
import HandS.Dict
import HandS.WordsDict
import HandS.Flt
import HandS.ExcInit
import HandS.ExcField
import PyProof.EnumMake
import PyProof.EnumFor
import HandS.Strs
import HandS.Text
import PyProof.StrOps2
import PyProof.ListCopy
import PyProof.AutoSeq1
import KE.KDictKeyed
import HandS.NoneIn
import HandS.TupSets
import KE.KDictCopyH
import KE.KDictList
import KE.KDictOf
import PySem.Challenge.RW_busyweb_k65_whirls_counted
set_option Elab.async false
set_option linter.all false
set_option maxRecDepth 100000
set_option maxHeartbeats 8000000
namespace BW
open PySem PySem.Spec PyProof.Rows L2
abbrev nWeb : List Str := ["self", "many", "ties", "ends", "place"]
structure SaysB (fa : List He.Fa) (fn : List He.DefD) (ex : List (PySem.W.Frag → Bool)) (K : PySem.W.Frag) : Prop where
  d : He.SaysD fa fn K
  m : (ex.all fun t => t K) = true
theorem SaysB.ex {fa : List He.Fa} {fn : List He.DefD} {ex : List (PySem.W.Frag → Bool)} {K : PySem.W.Frag} (c : SaysB fa fn ex K) (i : Nat) {t : PySem.W.Frag → Bool} (h : ex[i]? = some t := by rfl) : t K = true := List.all_eq_true.mp c.m t (List.mem_of_getElem? h)
def obsB (n : Nat) (fa : List He.Fa) (fn : List He.DefD) (ex : List (PySem.W.Frag → Bool)) (g : Addr → Option Obj) : He.AlD × Bool := (He.obsDG n fa fn g, ex.all fun t => t (He.frG g (He.asD g n)))
def hookB (n : Nat) (fa : List He.Fa) (fn : List He.DefD) (ex : List (PySem.W.Frag → Bool)) : PySem.W.Hook where
  α := He.AlD × Bool
  obs := fun s => obsB n fa fn ex s.heap.get?
  val := fun _ => (He.valD fn, true)
  says := fun _ h => ∃ K : PySem.W.Frag, K.In h ∧ SaysB fa fn ex K
  of := fun _ _ e => ⟨_, He.frG_in, congrArg (fun z : He.AlD × Bool => z.1) e, congrArg (fun z : He.AlD × Bool => z.2) e⟩
  keeps := fun _ _ _ ⟨K, hK, c⟩ k => ⟨K, PySem.W.Frag.In.keeps hK k, c⟩
theorem obsB_eq {n : Nat} {fa : List He.Fa} {fn : List He.DefD} {ex : List (PySem.W.Frag → Bool)} {g : Addr → Option Obj} {s : Shared} (h : ∀ a, g a = s.heap.get? a) : obsB n fa fn ex g = (hookB n fa fn ex).obs s := by
  have e : g = s.heap.get? := funext h
  rw [e]
  rfl
def tCl (x : Str) (K : PySem.W.Frag) : Bool := He.eqO (PySem.W.findIn K (.ref (He.ga K x)) "__class__") (some (some (.builtin "object.__class__"))) && (He.eqO (PySem.W.specialIn K (.builtin "object.__class__") "__get__") (some (some (.builtin "getset_descriptor.__get__"))) &&
  (decide (PySem.W.takesIn K (.builtin "object.__class__") = some true) && decide (PySem.W.mroIn K (He.ga K x) (.type "object") = some true)))
def tEx (x : Str) (K : PySem.W.Frag) : Bool := He.eqO (PySem.W.findIn K (.ref (He.ga K x)) "__getattribute__") (some (some (.builtin "BaseException.__getattribute__"))) && (He.eqO (PySem.W.findIn K (.ref (He.ga K x)) "__getattr__") (some none) &&
  (decide (PySem.W.subIn K (.ref (He.ga K x)) (.type "BaseException") = some true) && (PySem.W.hasDictIn K (He.ga K x) && tCl x K)))
/-- is a class one of u's -/
def tKit (x : Str) (u : PySem.W.Frag → Value) (b : Bool) (K : PySem.W.Frag) : Bool := decide (PySem.W.kitOne K (.ref (He.ga K x)) (u K) = some b)
def uOwn (y : Str) : PySem.W.Frag → Value := fun K => .ref (He.ga K y)
def uTy (y : String) : PySem.W.Frag → Value := fun _ => .type y
/-- the i-th statement of a class -/
def clsS (st : Stmt) (i : Nat) : Stmt := (match st with
  | .ClassDef _ _ _ body _ _ _ _ _ _ _ => body
  | _ => []).getD i (.Pass ⟨0, 0, 0, 0⟩)
theorem run_two {α β γ δ : Type} {x : Option α} {f : α → β} {g : α → γ} {h : α → δ} {b : β} {c : γ} {d : δ} (h1 : x.map (fun s => (f s, g s)) = some (b, c)) (h2 : x.map h = some d) : x.map (fun s => (f s, g s, h s)) = some (b, c, d) := by
  cases x with
  | none => cases h1
  | some s =>
    have e1 : (f s, g s) = (b, c) := Option.some.inj h1
    have e2 : h s = d := Option.some.inj h2
    have e3 : f s = b := congrArg Prod.fst e1
    have e4 : g s = c := congrArg Prod.snd e1
    show some (f s, g s, h s) = _
    rw [e2, e3, e4]
theorem run_obs {α γ : Type} {x : Option α} {a b d : α → Bool} {c : α → γ} {v : γ} (h1 : x.map a = some true) (h2 : x.map (fun s => (b s, c s)) = some (true, v)) (h3 : x.map d = some true) : x.map (fun s => ((a s && b s, c s), d s)) = some ((true, v), true) := by
  cases x with
  | none => cases h1
  | some s =>
    have e1 : a s = true := Option.some.inj h1
    have e2 : (b s, c s) = (true, v) := Option.some.inj h2
    have e3 : d s = true := Option.some.inj h3
    have e4 : b s = true := congrArg Prod.fst e2
    have e5 : c s = v := congrArg Prod.snd e2
    show some ((a s && b s, c s), d s) = _
    rw [e1, e3, e4, e5]
    rfl
theorem run_all2 {α β : Type} {x : Option α} {f : α → β → Bool} {l : List β} (n : Nat) (h1 : x.map (fun s => (l.take n).all (f s)) = some true) (h2 : x.map (fun s => (l.drop n).all (f s)) = some true) : x.map (fun s => l.all (f s)) = some true := by
  cases x with
  | none => cases h1
  | some s =>
    have e1 : (l.take n).all (f s) = true := Option.some.inj h1
    have e2 : (l.drop n).all (f s) = true := Option.some.inj h2
    show some (l.all (f s)) = _
    rw [← List.take_append_drop n l, List.all_append, e1, e2]
    rfl
end BW
namespace BW.Wk
open PySem PySem.Spec PyProof.Rows L2
open Evl (Ex Ex.refl Ex.trans Ex.new ex_rd ex_l ex_t)
def topS (i : Nat) : Stmt := PySem.Challenge.pw_busyweb_k65_whirls_counted.main.body.getD i (.Pass ⟨0, 0, 0, 0⟩)
abbrev s_come_to : Stmt := topS 19
abbrev s_gathered : Stmt := topS 20
abbrev s_made_one : Stmt := topS 21
abbrev s_whirls_in : Stmt := topS 22
abbrev s_how_many_whirls : Stmt := topS 23
abbrev s__law_cell : Stmt := topS 25
abbrev s__law_whole : Stmt := topS 26
abbrev s__law_alone : Stmt := topS 27
abbrev s__law_ends : Stmt := topS 28
abbrev s__law_drawn : Stmt := topS 29
abbrev s__law_led_ears : Stmt := topS 30
abbrev s__law_come : Stmt := topS 31
abbrev s__law_whirl : Stmt := topS 32
abbrev s__law_turns : Stmt := topS 33
abbrev s__law_refused : Stmt := topS 34
abbrev s__law_is : Stmt := topS 35
abbrev s_law : Stmt := topS 36
abbrev s_Web___init__ : Stmt := BW.clsS (topS 16) 0
abbrev n_Web___init__ : List Str := BW.nWeb
theorem sc_Web___init__ : FnScope n_Web___init__ ["self", "many", "ties"] (defScope s_Web___init__) := ⟨rfl, rfl, rfl, by decide +kernel, rfl, by decide +kernel, by decide +kernel⟩
abbrev n_come_to : List Str := ["ways", "place", "found", "k", "start", "goal"]
theorem sc_come_to : FnScope n_come_to ["ways", "place"] (defScope s_come_to) := ⟨rfl, rfl, rfl, by decide +kernel, rfl, by decide +kernel, by decide +kernel⟩
abbrev n_gathered : List Str := ["web", "counts", "loops", "ends", "pair"]
theorem sc_gathered : FnScope n_gathered ["web"] (defScope s_gathered) := ⟨rfl, rfl, rfl, by decide +kernel, rfl, by decide +kernel, by decide +kernel⟩
abbrev n_made_one : List Str := ["counts", "one", "two", "found", "pair", "many", "ends", "other", "place"]
theorem sc_made_one : FnScope n_made_one ["counts", "one", "two"] (defScope s_made_one) := ⟨rfl, rfl, rfl, by decide +kernel, rfl, by decide +kernel, by decide +kernel⟩
abbrev n_whirls_in : List Str := ["counts", "one", "two", "many", "rest", "both", "pair"]
theorem sc_whirls_in : FnScope n_whirls_in ["counts"] (defScope s_whirls_in) := ⟨rfl, rfl, rfl, by decide +kernel, rfl, by decide +kernel, by decide +kernel⟩
abbrev n_how_many_whirls : List Str := ["web", "counts", "loops"]
theorem sc_how_many_whirls : FnScope n_how_many_whirls ["web"] (defScope s_how_many_whirls) := ⟨rfl, rfl, rfl, by decide +kernel, rfl, by decide +kernel, by decide +kernel⟩
abbrev n__law_cell : List Str := ["_law_script", "_law_k"]
theorem sc__law_cell : FnScope n__law_cell ["_law_script", "_law_k"] (defScope s__law_cell) := ⟨rfl, rfl, rfl, by decide +kernel, rfl, by decide +kernel, by decide +kernel⟩
abbrev n__law_whole : List Str := ["_law_found"]
theorem sc__law_whole : FnScope n__law_whole ["_law_found"] (defScope s__law_whole) := ⟨rfl, rfl, rfl, by decide +kernel, rfl, by decide +kernel, by decide +kernel⟩
abbrev n__law_alone : List Str := ["_law_e", "_law_kinds"]
theorem sc__law_alone : FnScope n__law_alone ["_law_e"] (defScope s__law_alone) := ⟨rfl, rfl, rfl, by decide +kernel, rfl, by decide +kernel, by decide +kernel⟩
abbrev n__law_ends : List Str := ["_law_script", "_law_many", "_law_count", "_law_way", "_law_rest", "_law_found", "_law_k", "_law_cell_here", "_law_mixed"]
theorem sc__law_ends : FnScope n__law_ends ["_law_script", "_law_many", "_law_count", "_law_way"] (defScope s__law_ends) := ⟨rfl, rfl, rfl, by decide +kernel, rfl, by decide +kernel, by decide +kernel⟩
abbrev n__law_drawn : List Str := ["_law_script", "_law_most", "_law_bound", "_law_lead", "_law_many", "_law_count"]
theorem sc__law_drawn : FnScope n__law_drawn ["_law_script", "_law_most", "_law_bound"] (defScope s__law_drawn) := ⟨rfl, rfl, rfl, by decide +kernel, rfl, by decide +kernel, by decide +kernel⟩
abbrev n__law_led_ears : List Str := ["_law_script", "_law_at", "_law_most", "_law_bound", "_law_ends_here", "_law_places", "_law_k", "_law_order", "_law_mixed", "_law_onward", "_law_found", "_law_cell_here", "_law_one", "_law_two", "_law_fresh", "_law_pair", "_law_row", "_law_j"]
theorem sc__law_led_ears : FnScope n__law_led_ears ["_law_script", "_law_at", "_law_most", "_law_bound"] (defScope s__law_led_ears) := ⟨rfl, rfl, rfl, by decide +kernel, rfl, by decide +kernel, by decide +kernel⟩
abbrev n__law_come : List Str := ["_law_ends_here", "_law_directions", "_law_place", "_law_found", "_law_waiting", "_law_at", "_law_k", "_law_one", "_law_two"]
theorem sc__law_come : FnScope n__law_come ["_law_ends_here", "_law_directions", "_law_place"] (defScope s__law_come) := ⟨rfl, rfl, rfl, by decide +kernel, rfl, by decide +kernel, by decide +kernel⟩
abbrev n__law_whirl : List Str := ["_law_many", "_law_ends_here", "_law_directions", "_law_there", "_law_k", "_law_one", "_law_two", "_law_place"]
theorem sc__law_whirl : FnScope n__law_whirl ["_law_many", "_law_ends_here", "_law_directions"] (defScope s__law_whirl) := ⟨rfl, rfl, rfl, by decide +kernel, rfl, by decide +kernel, by decide +kernel⟩
abbrev n__law_turns : List Str := ["_law_cell_here", "_law_many", "_law_rest", "_law_found", "_law_k"]
theorem sc__law_turns : FnScope n__law_turns ["_law_cell_here", "_law_many"] (defScope s__law_turns) := ⟨rfl, rfl, rfl, by decide +kernel, rfl, by decide +kernel, by decide +kernel⟩
abbrev n__law_refused : List Str := ["_law_web", "_law_found", "_law_e"]
theorem sc__law_refused : FnScope n__law_refused ["_law_web"] (defScope s__law_refused) := ⟨rfl, rfl, rfl, by decide +kernel, rfl, by decide +kernel, by decide +kernel⟩
abbrev n__law_is : List Str := ["_law_web", "_law_due", "_law_found"]
theorem sc__law_is : FnScope n__law_is ["_law_web", "_law_due"] (defScope s__law_is) := ⟨rfl, rfl, rfl, by decide +kernel, rfl, by decide +kernel, by decide +kernel⟩
abbrev n_law : List Str := ["_law_script", "_law_many", "_law_ends_here", "_law_due", "_law_choice", "_law_twice", "_law_place", "_law_loops", "_law_more", "_law_onward", "_law_one", "_law_two"]
theorem sc_law : FnScope n_law ["_law_script"] (defScope s_law) := ⟨rfl, rfl, rfl, by decide +kernel, rfl, by decide +kernel, by decide +kernel⟩
def fa : List He.Fa := [.free "len", .cls "Web", .noat "Web" "ties", .free "max", .free "min", .free "list", .free "dict", .int "MOST_TRIED" 12, .glo "TooMany", .exc "TooMany", .free "isinstance", .free "bool", .free "int", .glo "BadTie", .glo "BadPlace", .glo "BadWeb", .glo "BadSet", .glo "NoFlow", .glo "BadRest", .glo "BadFlow", .glo "BadDeed", .glo "BadText", .glo "BadPaper", .free "ValueError", .glo "FlowError", .free "abs", .free "range", .exm "BadDeed" "FlowError" true, .exm "BadText" "FlowError" true, .exm "BadPaper" "FlowError" true, .exm "BadSet" "FlowError" true, .exm "NoFlow" "FlowError" true, .exm "BadRest" "FlowError" true, .exm "BadFlow" "FlowError" true, .exm "BadTie" "FlowError" true, .exm "BadPlace" "FlowError" true, .exm "TooMany" "FlowError" true, .exm "BadWeb" "FlowError" true, .exm "FlowError" "FlowError" true, .free "sum", .int "MOST_TIES" 40, .int "MOST_PLACES" 20, .exc "BadWeb", .free "tuple", .mkr "Web", .noat "Web" "many", .glo "Web", .glo "come_to", .glo "gathered", .glo "made_one", .glo "whirls_in", .glo "how_many_whirls", .glo "_law_cell", .glo "_law_whole", .glo "_law_alone", .glo "_law_ends", .glo "_law_drawn", .glo "_law_led_ears", .glo "_law_come", .glo "_law_whirl", .glo "_law_turns", .glo "_law_refused", .glo "_law_is", .glo "law"]
def fn : List He.DefD := [⟨("come_to", none), "come_to", "come_to", defArgs s_come_to, defBody s_come_to, defScope s_come_to, [], []⟩, ⟨("gathered", none), "gathered", "gathered", defArgs s_gathered, defBody s_gathered, defScope s_gathered, [], []⟩, ⟨("made_one", none), "made_one", "made_one", defArgs s_made_one, defBody s_made_one, defScope s_made_one, [], []⟩, ⟨("whirls_in", none), "whirls_in", "whirls_in", defArgs s_whirls_in, defBody s_whirls_in, defScope s_whirls_in, [], []⟩, ⟨("how_many_whirls", none), "how_many_whirls", "how_many_whirls", defArgs s_how_many_whirls, defBody s_how_many_whirls, defScope s_how_many_whirls, [], []⟩, ⟨("_law_cell", none), "_law_cell", "_law_cell", defArgs s__law_cell, defBody s__law_cell, defScope s__law_cell, [], []⟩, ⟨("_law_whole", none), "_law_whole", "_law_whole", defArgs s__law_whole, defBody s__law_whole, defScope s__law_whole, [], []⟩, ⟨("_law_alone", none), "_law_alone", "_law_alone", defArgs s__law_alone, defBody s__law_alone, defScope s__law_alone, [], []⟩, ⟨("_law_ends", none), "_law_ends", "_law_ends", defArgs s__law_ends, defBody s__law_ends, defScope s__law_ends, [], []⟩, ⟨("_law_drawn", none), "_law_drawn", "_law_drawn", defArgs s__law_drawn, defBody s__law_drawn, defScope s__law_drawn, [], []⟩, ⟨("_law_led_ears", none), "_law_led_ears", "_law_led_ears", defArgs s__law_led_ears, defBody s__law_led_ears, defScope s__law_led_ears, [], []⟩, ⟨("_law_come", none), "_law_come", "_law_come", defArgs s__law_come, defBody s__law_come, defScope s__law_come, [], []⟩, ⟨("_law_whirl", none), "_law_whirl", "_law_whirl", defArgs s__law_whirl, defBody s__law_whirl, defScope s__law_whirl, [], []⟩, ⟨("_law_turns", none), "_law_turns", "_law_turns", defArgs s__law_turns, defBody s__law_turns, defScope s__law_turns, [], []⟩, ⟨("_law_refused", none), "_law_refused", "_law_refused", defArgs s__law_refused, defBody s__law_refused, defScope s__law_refused, [], []⟩, ⟨("_law_is", none), "_law_is", "_law_is", defArgs s__law_is, defBody s__law_is, defScope s__law_is, [], []⟩, ⟨("law", none), "law", "law", defArgs s_law, defBody s_law, defScope s_law, [], []⟩, ⟨("Web", some "__init__"), "__init__", "Web.__init__", defArgs s_Web___init__, defBody s_Web___init__, defScope s_Web___init__, [], []⟩]
def ex : List (PySem.W.Frag → Bool) := [BW.tKit "FlowError" (BW.uOwn "BadTie") false, BW.tEx "FlowError", BW.tKit "BadWeb" (BW.uOwn "BadTie") false, BW.tEx "BadWeb", BW.tKit "TooMany" (BW.uOwn "BadTie") false, BW.tEx "TooMany", BW.tKit "BadPlace" (BW.uOwn "BadTie") false, BW.tEx "BadPlace", BW.tKit "BadTie" (BW.uOwn "BadTie") true, BW.tEx "BadTie", BW.tKit "BadFlow" (BW.uOwn "BadTie") false, BW.tEx "BadFlow", BW.tKit "BadRest" (BW.uOwn "BadTie") false, BW.tEx "BadRest", BW.tKit "BadSet" (BW.uOwn "BadTie") false, BW.tEx "BadSet", BW.tKit "BadPaper" (BW.uOwn "BadTie") false, BW.tEx "BadPaper", BW.tKit "FlowError" (BW.uOwn "BadPlace") false, BW.tKit "BadWeb" (BW.uOwn "BadPlace") false, BW.tKit "TooMany" (BW.uOwn "BadPlace") false, BW.tKit "BadPlace" (BW.uOwn "BadPlace") true, BW.tKit "BadTie" (BW.uOwn "BadPlace") false, BW.tKit "BadFlow" (BW.uOwn "BadPlace") false, BW.tKit "BadRest" (BW.uOwn "BadPlace") false, BW.tKit "BadSet" (BW.uOwn "BadPlace") false, BW.tKit "BadPaper" (BW.uOwn "BadPlace") false, BW.tKit "FlowError" (BW.uOwn "TooMany") false, BW.tKit "BadWeb" (BW.uOwn "TooMany") false, BW.tKit "TooMany" (BW.uOwn "TooMany") true, BW.tKit "BadPlace" (BW.uOwn "TooMany") false, BW.tKit "BadTie" (BW.uOwn "TooMany") false, BW.tKit "BadFlow" (BW.uOwn "TooMany") false, BW.tKit "BadRest" (BW.uOwn "TooMany") false, BW.tKit "BadSet" (BW.uOwn "TooMany") false, BW.tKit "BadPaper" (BW.uOwn "TooMany") false, BW.tKit "FlowError" (BW.uOwn "BadWeb") false, BW.tKit "BadWeb" (BW.uOwn "BadWeb") true, BW.tKit "TooMany" (BW.uOwn "BadWeb") false, BW.tKit "BadPlace" (BW.uOwn "BadWeb") false, BW.tKit "BadTie" (BW.uOwn "BadWeb") false, BW.tKit "BadFlow" (BW.uOwn "BadWeb") false, BW.tKit "BadRest" (BW.uOwn "BadWeb") false, BW.tKit "BadSet" (BW.uOwn "BadWeb") false, BW.tKit "BadPaper" (BW.uOwn "BadWeb") false, BW.tKit "FlowError" (BW.uOwn "BadSet") false, BW.tKit "BadWeb" (BW.uOwn "BadSet") false, BW.tKit "TooMany" (BW.uOwn "BadSet") false, BW.tKit "BadPlace" (BW.uOwn "BadSet") false, BW.tKit "BadTie" (BW.uOwn "BadSet") false, BW.tKit "BadFlow" (BW.uOwn "BadSet") false, BW.tKit "BadRest" (BW.uOwn "BadSet") false, BW.tKit "BadSet" (BW.uOwn "BadSet") true, BW.tKit "BadPaper" (BW.uOwn "BadSet") false, BW.tKit "FlowError" (BW.uOwn "NoFlow") false, BW.tKit "BadWeb" (BW.uOwn "NoFlow") false, BW.tKit "TooMany" (BW.uOwn "NoFlow") false, BW.tKit "BadPlace" (BW.uOwn "NoFlow") false, BW.tKit "BadTie" (BW.uOwn "NoFlow") false, BW.tKit "BadFlow" (BW.uOwn "NoFlow") false, BW.tKit "BadRest" (BW.uOwn "NoFlow") false, BW.tKit "BadSet" (BW.uOwn "NoFlow") false, BW.tKit "BadPaper" (BW.uOwn "NoFlow") false, BW.tKit "FlowError" (BW.uOwn "BadRest") false, BW.tKit "BadWeb" (BW.uOwn "BadRest") false, BW.tKit "TooMany" (BW.uOwn "BadRest") false, BW.tKit "BadPlace" (BW.uOwn "BadRest") false, BW.tKit "BadTie" (BW.uOwn "BadRest") false, BW.tKit "BadFlow" (BW.uOwn "BadRest") false, BW.tKit "BadRest" (BW.uOwn "BadRest") true, BW.tKit "BadSet" (BW.uOwn "BadRest") false, BW.tKit "BadPaper" (BW.uOwn "BadRest") false, BW.tKit "FlowError" (BW.uOwn "BadFlow") false, BW.tKit "BadWeb" (BW.uOwn "BadFlow") false, BW.tKit "TooMany" (BW.uOwn "BadFlow") false, BW.tKit "BadPlace" (BW.uOwn "BadFlow") false, BW.tKit "BadTie" (BW.uOwn "BadFlow") false, BW.tKit "BadFlow" (BW.uOwn "BadFlow") true, BW.tKit "BadRest" (BW.uOwn "BadFlow") false, BW.tKit "BadSet" (BW.uOwn "BadFlow") false, BW.tKit "BadPaper" (BW.uOwn "BadFlow") false, BW.tKit "FlowError" (BW.uOwn "BadDeed") false, BW.tKit "BadWeb" (BW.uOwn "BadDeed") false, BW.tKit "TooMany" (BW.uOwn "BadDeed") false, BW.tKit "BadPlace" (BW.uOwn "BadDeed") false, BW.tKit "BadTie" (BW.uOwn "BadDeed") false, BW.tKit "BadFlow" (BW.uOwn "BadDeed") false, BW.tKit "BadRest" (BW.uOwn "BadDeed") false, BW.tKit "BadSet" (BW.uOwn "BadDeed") false, BW.tKit "BadPaper" (BW.uOwn "BadDeed") false, BW.tKit "FlowError" (BW.uOwn "BadText") false, BW.tKit "BadWeb" (BW.uOwn "BadText") false, BW.tKit "TooMany" (BW.uOwn "BadText") false, BW.tKit "BadPlace" (BW.uOwn "BadText") false, BW.tKit "BadTie" (BW.uOwn "BadText") false, BW.tKit "BadFlow" (BW.uOwn "BadText") false, BW.tKit "BadRest" (BW.uOwn "BadText") false, BW.tKit "BadSet" (BW.uOwn "BadText") false, BW.tKit "BadPaper" (BW.uOwn "BadText") false, BW.tKit "FlowError" (BW.uOwn "BadPaper") false, BW.tKit "BadWeb" (BW.uOwn "BadPaper") false, BW.tKit "TooMany" (BW.uOwn "BadPaper") false, BW.tKit "BadPlace" (BW.uOwn "BadPaper") false, BW.tKit "BadTie" (BW.uOwn "BadPaper") false, BW.tKit "BadFlow" (BW.uOwn "BadPaper") false, BW.tKit "BadRest" (BW.uOwn "BadPaper") false, BW.tKit "BadSet" (BW.uOwn "BadPaper") false, BW.tKit "BadPaper" (BW.uOwn "BadPaper") true, BW.tKit "FlowError" (BW.uTy "ValueError") true, BW.tKit "BadWeb" (BW.uTy "ValueError") true, BW.tKit "TooMany" (BW.uTy "ValueError") true, BW.tKit "BadPlace" (BW.uTy "ValueError") true, BW.tKit "BadTie" (BW.uTy "ValueError") true, BW.tKit "BadFlow" (BW.uTy "ValueError") true, BW.tKit "BadRest" (BW.uTy "ValueError") true, BW.tKit "BadSet" (BW.uTy "ValueError") true, BW.tKit "BadPaper" (BW.uTy "ValueError") true, BW.tKit "FlowError" (BW.uOwn "FlowError") true, BW.tKit "BadWeb" (BW.uOwn "FlowError") true, BW.tKit "TooMany" (BW.uOwn "FlowError") true, BW.tKit "BadPlace" (BW.uOwn "FlowError") true, BW.tKit "BadTie" (BW.uOwn "FlowError") true, BW.tKit "BadFlow" (BW.uOwn "FlowError") true, BW.tKit "BadRest" (BW.uOwn "FlowError") true, BW.tKit "BadSet" (BW.uOwn "FlowError") true, BW.tKit "BadPaper" (BW.uOwn "FlowError") true]
abbrev Rw : PySem.W.OpenRow := PySem.W.OpenLaw.row PySem.Challenge.rw_busyweb_k65_whirls_counted
abbrev hk : PySem.W.Hook := BW.hookB 4 fa fn ex
def ob (s : PySem.W.SharedT) : He.AlD × Bool := BW.obsB 4 fa fn ex (HandSHeadRun.getT s)
theorem ob_eq (s : PySem.W.SharedT) : ob s = hk.obs s.abs := BW.obsB_eq (HandSHeadRun.getT_eq s)
def names : List PySem.Str := (["FlowError", "BadWeb", "TooMany", "BadPlace", "BadTie", "BadFlow", "BadRest", "NoFlow", "BadSet", "BadPaper", "BadText", "BadDeed", "MOST_PLACES", "MOST_TIES", "Web", "MOST_TRIED", "come_to", "gathered", "made_one", "whirls_in", "how_many_whirls", "_law_cell", "_law_whole", "_law_alone", "_law_ends"] : List PySem.Str) ++ (["_law_drawn", "_law_led_ears", "_law_come", "_law_whirl", "_law_turns", "_law_refused", "_law_is"] : List PySem.Str)
section
open PySem PySem.W PySem.Calls PyProof.Rows HandSHeadRun
theorem runA (w : World) : ∀ os : OsState, (endF (stepQ (denQ tabQ) Rw.prog w) 25200 Rw.prog w os).map (fun s => (looksF Rw.prog (boot_heap w.params) s.abs, seenQ (PySem.W.view Rw.prog [36]) names (importedModules Rw.prog.main.body) (fun s => xlAt (PySem.W.view Rw.prog [36]) [] s && recOk Rw.toRowW.records s) s.abs)) = some (true, openGood (PySem.W.view Rw.prog [36]) names) := by
  intro os
  kernel_rfl
theorem runB1 (w : World) : ∀ os : OsState, (endF (stepQ (denQ tabQ) Rw.prog w) 25200 Rw.prog w os).map (fun s => (fa).all ((fun s f => He.Fa.ok (He.frG (getT s) (He.asD (getT s) 4)) f) s)) = some true := by
  intro os
  kernel_rfl
theorem runB2 (w : World) : ∀ os : OsState, (endF (stepQ (denQ tabQ) Rw.prog w) 25200 Rw.prog w os).map (fun s => ((fn).all ((fun s d => He.DefD.ok (He.frG (getT s) (He.asD (getT s) 4)) d) s), List.map ((fun s d => He.fnW (He.frG (getT s) (He.asD (getT s) 4)) d.at_) s) (fn))) = some (true, (He.valD fn).2) := by
  intro os
  kernel_rfl
theorem runB3a (w : World) : ∀ os : OsState, (endF (stepQ (denQ tabQ) Rw.prog w) 25200 Rw.prog w os).map (fun s => ((ex).take 63).all ((fun s t => t (He.frG (getT s) (He.asD (getT s) 4))) s)) = some true := by
  intro os
  kernel_rfl
theorem runB3b (w : World) : ∀ os : OsState, (endF (stepQ (denQ tabQ) Rw.prog w) 25200 Rw.prog w os).map (fun s => ((ex).drop 63).all ((fun s t => t (He.frG (getT s) (He.asD (getT s) 4))) s)) = some true := by
  intro os
  kernel_rfl
theorem runB3 (w : World) : ∀ os : OsState, (endF (stepQ (denQ tabQ) Rw.prog w) 25200 Rw.prog w os).map (fun s => (ex).all ((fun s t => t (He.frG (getT s) (He.asD (getT s) 4))) s)) = some true := fun os => BW.run_all2 (β := PySem.W.Frag → Bool) (f := fun s (t : PySem.W.Frag → Bool) => t (He.frG (getT s) (He.asD (getT s) 4))) (l := ex) 63 (runB3a w os) (runB3b w os)
theorem runB (w : World) : ∀ os : OsState, (endF (stepQ (denQ tabQ) Rw.prog w) 25200 Rw.prog w os).map ob = some (hk.val w) := fun os => BW.run_obs (runB1 w os) (runB2 w os) (runB3 w os)
end
theorem run (w : World) : HandSHeadRun.RunEq Rw (PySem.W.view Rw.prog [36]) hk ob 25200 names w := fun os => BW.run_two (runA w os) (runB w os)
open PySem PySem.W PySem.Calls PyProof.Rows HandSHeadRun in
theorem hd_ok : (chainsOk (view Rw.prog [36]) && opensWell Rw.prog && (frees Rw.toRowW && Rw.within.isEmpty)) = true := by decide +kernel
open PySem PySem.W PySem.Calls PyProof.Rows HandSHeadRun in
theorem hd_b : Rw.prog.bare := ⟨rfl, rfl, rfl, rfl, rfl, by decide +kernel⟩
open PySem PySem.W PySem.Calls PyProof.Rows HandSHeadRun in
theorem hd_close (hc : WalkO (view Rw.prog [36]) names (XL (view Rw.prog [36]) []) hk.says Rw.toRowW (topDef Rw.prog 36) [] fun f vs => PySem.call f vs) : PySem.Challenge.rw_busyweb_k65_whirls_counted.Holds := by
  w_on; o_law
  refine HandSHeadRun.head_any (r := Rw) (q := view Rw.prog [36]) (H := hk) (ob := ob) (M := 25200) (loose := names) (d := topDef Rw.prog 36) (kwd := []) ob_eq
    (by kernel_rfl) (fun s => by kernel_rfl) run (by kernel_rfl) (by kernel_rfl) (by kernel_rfl) (by rfl) (by first | assumption | decide +kernel) hd_ok hd_b ?hw hc
  case hw => w_witness2
end BW.Wk
/-! BCore0: new tuples, told with the object that they are. -/
namespace BW
open PySem PySem.Spec PyProof.Rows L2
/-- a new tuple as an object -/
abbrev tObj (us : List Value) : Obj := { cls := .type "tuple", data := .seq us.toArray }
section
variable {X : Cx} {pins : List (Addr × Obj)} {σ : L2.St} {H : Hp} {s : Shared}
theorem new_tup {tk : Nat} (I : Inv X pins σ H s) {xs : List V} {us : List Value} (r : Vals xs us) (z : xs.length ≤ sizeLine) :
    Inv X pins σ (upd H s.heap.objs.size (.frz (tObj us) (.tup xs))) { s with heap := s.heap.push (tObj us), toks := tk } :=
  I.laid (t' := tk) (fun _ _ q => Heap.get?_push_of_some _ q) (Nat.le_refl _) ⟨Heap.get?_push_size _ rfl, z, us, r, IsTup.new _ _⟩
/-- what is wished of a new tuple -/
abbrev NewT (xs : List V) (H : Hp) (Q : VK) : Prop := ∀ (p : Addr) (ob : Obj), H p = none → ob.dict = none → Q (.ref p) (upd H p (.frz ob (.tup xs)))
theorem newT_run {tk : Nat} {xs : List V} {Q : VK} (I : Inv X pins σ H s) {us : List Value} (r : Vals xs us) (z : xs.length ≤ sizeLine) (q : NewT xs H Q) :
    EP X pins σ Q (.ref s.heap.objs.size) { s with heap := s.heap.push (tObj us), toks := tk } :=
  ⟨.ref s.heap.objs.size, _, new_tup I r z, rfl, q _ _ (I.hok.fresh (Nat.le_refl _)) rfl⟩
end
section
variable {X : Cx} {es : List Expr} {t : TA} {pos : Pos}
/-- (.., ..) -/
def tTupN (t : TA) : TE := fun σ H Q => t σ H fun xs H1 => xs.length ≤ sizeLine ∧ NewT xs H1 Q
theorem pe_tupN {x1} (h : PA X es t) : PE X (.Tuple es x1 pos) (tTupN t) := ⟨fun pins s σ H Q I hq =>
  wpAny_Tuple_spliced (thn (h.run pos pins s σ H _ I hq) fun us s1 ⟨xs, H1, I1, r, z, q⟩ => ⟨by rw [← r.length]; exact z, newT_run (tk := s1.toks) I1 r z q⟩)⟩
/-- tuple(list), tuple(tuple) -/
def rTupN (K : PySem.W.Frag) : List V → Hp → VK → Prop := fun xs H Q => ∃ p ys, xs = [.ref p] ∧ ((SqL K H p ys ∧ NewT ys H Q) ∨ (SqT K H p ys ∧ Q (.ref p) H))
theorem call_tupN : CallR X (.type "tuple") (rTupN X.K) := by
  rintro pins s σ H xs us Q I r ⟨p, ys, rfl, h⟩
  obtain ⟨u, rfl, rx⟩ := vals1 r
  cases rx
  rcases h with ⟨hq, q⟩ | ⟨hq, q⟩
  · obtain ⟨its, rv, pl, hz⟩ := I.list hq
    have hlen := rv.length
    refine call_tuple_list pl.isList (fun h' kp => ?_) (by simp only [List.size_toArray] <;> omega)
    exact newT_run (s := { s with heap := h' }) (tk := s.toks) (I.kept (t' := s.toks) kp) rv hz q
  · obtain ⟨its, rv, pl, hz⟩ := I.tuple hq
    exact call_tuple_same pl ⟨.ref p, H, I, rfl, q⟩
/-- t + u -/
def rCatN (K : PySem.W.Frag) : R2 := fun x y H Q => ∃ a b xs ys, x = .ref a ∧ y = .ref b ∧ SqT K H a xs ∧ SqT K H b ys ∧ xs.length + ys.length ≤ sizeLine ∧
  (xs = [] → Q (.ref b) H) ∧ (xs ≠ [] → ys = [] → Q (.ref a) H) ∧ (xs ≠ [] → ys ≠ [] → NewT (xs ++ ys) H Q)
theorem op_catN : OpR X (binaryOp .Add) (rCatN X.K) := by
  rintro pins s σ H x y v u Q I rx ry ⟨a, b, xs, ys, rfl, rfl, ha, hb, hz, q0, q1, q2⟩
  cases rx
  cases ry
  obtain ⟨us, r1, p1, _⟩ := I.tuple ha
  obtain ⟨ws, r2, p2, _⟩ := I.tuple hb
  by_cases hx : xs = []
  · subst hx
    cases r1
    exact cat_tup0 p1 p2 ⟨.ref b, H, I, rfl, q0 rfl⟩
  · refine HT.cat_tup p1 p2 (fun z => hx (r1.nil_iff.mp z)) (fun z => ⟨.ref a, H, I, rfl, q1 hx (r2.nil_iff.mp z)⟩) (fun z => ?_) (by rw [← r1.length, ← r2.length]; exact hz)
    exact newT_run (tk := s.toks) I (r1.append r2) (by rw [List.length_append]; exact hz) (q2 hx fun w => z (r2.nil_iff.mpr w))
/-- a method of a tuple, that is told with its object -/
theorem tup_is {pins : List (Addr × Obj)} {σ : L2.St} {H : Hp} {s : Shared} {a : Addr} {ob : Obj} {xs : List V} (I : Inv X pins σ H s) (h : H a = some (.frz ob (.tup xs))) (hd : ob.dict = none) :
    s.TypeIs (.ref a) "tuple" ∧ ∀ b, Value.ref a = .ref b → ∃ o, s.heap.get? b = some o ∧ o.dict = none := by
  obtain ⟨e, z, its, r, tp⟩ := I.hok a _ h
  exact ⟨tp.typeIs, fun b q => by cases q; exact ⟨ob, e, hd⟩⟩
def tTM (r : V → List V → Hp → VK → Prop) (to : TE) (t : TA) : TE := fun σ H Q => to σ H fun x H1 => (∃ a ob xs, x = .ref a ∧ H1 a = some (.frz ob (.tup xs)) ∧ ob.dict = none) ∧ t σ H1 fun xs H2 => r x xs H2 Q
theorem pe_tm {o e : Expr} {es : List Expr} {to : TE} {t : TA} {name : Str} {apos cpos : Pos} {id : String} {r : V → List V → Hp → VK → Prop} (pa : PlainAttrs "tuple") (slot : Slot "tuple" name id) (hty : typeOf (.builtin id) = pure (.type "method_descriptor")) (hm : MtR X id r) (ho : PE X o to) (ha : PA X (e :: es) t) (hbase : attributeBase o name X.env (eval o X.env) = eval o X.env := by rfl) (hfew : ((backTo cpos (starEach (e :: es) X.env)).all (fun x => !x.1) && (backToKw cpos (keywordEach [] X.env)).all (fun x => x.1.isSome)   && decide ((e :: es).length + ([] : List Keyword).length + (if ([] : List Keyword).isEmpty then 0 else 1) < 30)) = true := by rfl) (hline : (apos.endLine == cpos.line) = true := by rfl) (hs : starEach (e :: es) X.env = (false, eval e X.env) :: starEach es X.env := by rfl) (hplain : (backTo cpos (starEach es X.env)).any (·.1) = false := by rfl) : PE X (.Call (.Attribute o name apos) (e :: es) [] cpos) (tTM r to t) := ⟨fun pins s σ H Q I h => by
  refine wpAny_Call_method_late hbase hfew hline rfl (thn (ho.run pins s σ H _ I h) ?_)
  rintro v s1 ⟨x, H1, I1, r1, ⟨a, ob, xs, rfl, hx, hd⟩, q1⟩
  cases r1
  obtain ⟨k1, k2⟩ := tup_is I1 hx hd
  refine ⟨"tuple", id, pa, slot, hty, k1, k2, ?_⟩
  have ran := ha.run cpos pins s1 σ H1 _ I1 q1
  rw [hs] at ran ⊢
  have no : ((false, eval e X.env) :: backTo cpos (starEach es X.env)).any (·.1) = false := by show (false || _) = false; rw [hplain]; rfl
  refine Calls.callWith_builtin no (Calls.evalArgs_plain ?_)
  exact thn ran fun us s2 ⟨vs, H2, I2, r2, q2⟩ => hm pins s2 σ H2 (.ref a) vs (.ref a) us Q I2 rfl r2 q2⟩
end
end BW
/-! BCore1: data, environments, and how they lie in the heap. -/
namespace BW
open PySem PySem.Spec PyProof.Rows L2
open Evl (Ex Ex.refl Ex.trans Ex.new ex_rd ex_l ex_t)

/-! ### data -/
inductive D where
  | non | bl (b : Bool) | int (i : Int) | str (z : Str)
  | lst (l : List D) | tup (l : List D) | scr (l : List Int)
  | obj (c : Nat) (l : List D) | exc (c : Nat) (l : List D) | dct (ks : List Int) (l : List D) | dtt (ks : List (List Int)) (l : List D) | adr (a : Addr)
inductive R (α : Type) where
  | ok (a : α) | er (c : Nat) (p : List D) | no
def R.bind {α β : Type} (x : R α) (f : α → R β) : R β := match x with
  | .ok a => f a
  | .er c p => .er c p
  | .no => .no
/-- what a name that owns all within is told by: its value, or that it is a list whose first items are lists -/
inductive Ow where
  | d (d : D) | n (k b : Nat)
inductive Sl where
  | no | im (d : D) | mu (l : List D) | bo (d : D) | md (ks : List Int) (l : List D) | ow (d : Ow) | dk (o : Option Addr) (h : D)
abbrev En := List Sl
/-- what a class of the program is called -/
def cn : Nat → Str
  | 0 => "Web" | 1 => "Desk" | 2 => "FlowError" | 3 => "BadWeb" | 4 => "TooMany" | 5 => "BadPlace" | 6 => "BadTie" | 7 => "BadFlow"
  | 8 => "BadRest" | 9 => "NoFlow" | 10 => "BadSet" | 11 => "BadPaper" | 12 => "BadText" | 13 => "BadDeed" | _ => ""
def fns : Nat → List Str
  | 0 => ["many", "ties"] | 1 => ["history"] | _ => []
abbrev CL (K : PySem.W.Frag) (c : Nat) : Addr := He.ga K (cn c)

/-- the name of an error's one field -/
def xf : Nat → Str
  | 9 => "tie" | 12 => "at" | 13 => "at" | _ => ""
/-- an error of a class of the program, as it was made -/
def excO (C : Addr) (od : Option Addr) (a : Addr) : HO := .ext fun h => ∃ oe, h.get? a = some oe ∧ Zc (.ref C) od oe ∧ ∃ vs, oe.data = .fields vs
/-! ### how data lies in a heap -/
/-- a told tuple, with its object -/
def TupN (I : Hp) (a : Addr) (vs : List V) : Prop := ∃ ob : Obj, ob.dict = none ∧ I a = some (.frz ob (.tup vs))
theorem TupN.mono {I J : Hp} {a : Addr} {vs : List V} (h : TupN I a vs) (e : Ex I J) : TupN J a vs := let ⟨ob, d, k⟩ := h; ⟨ob, d, e _ _ k⟩
theorem TupN.sq {K : PySem.W.Frag} {I : Hp} {a : Addr} {vs : List V} (h : TupN I a vs) : SqT K I a vs := let ⟨ob, _, k⟩ := h; .inl (.inr ⟨ob, k⟩)
theorem TupN.rd {I : Hp} {a : Addr} {vs : List V} (h : TupN I a vs) : L2.Rd I a (.tup vs) := let ⟨ob, _, k⟩ := h; .inr ⟨ob, k⟩
theorem TupN.new {I : Hp} {a : Addr} {vs : List V} {ob : Obj} (d : ob.dict = none) : TupN (upd I a (.frz ob (.tup vs))) a vs := ⟨ob, d, upd_same⟩
mutual
inductive Rd (K : PySem.W.Frag) (I : Hp) : V → D → Prop
  | non : Rd K I .non .non
  | bl {b} : Rd K I (.bl b) (.bl b)
  | int {i} : Rd K I (.int i) (.int i)
  | str {z} : Rd K I (.str z) (.str z)
  | lst {a vs ds} : I a = some (.lst vs) → RdA K I vs ds → Rd K I (.ref a) (.lst ds)
  | tup {a vs ds} : TupN I a vs → RdA K I vs ds → Rd K I (.ref a) (.tup ds)
  | scr {a ns} : SqL K I a (ns.map V.int) → Rd K I (.ref a) (.scr ns)
  | obj {a c dx vs ds} : I a = some (.ins (CL K c) dx ((fns c).zip vs)) → vs.length = (fns c).length → RdA K I vs ds → Rd K I (.ref a) (.obj c ds)
  | exc0 {a c} : I a = some (excO (CL K c) none a) → Rd K I (.ref a) (.exc c [])
  | exc1 {a c dx v d} : I a = some (excO (CL K c) (some dx) a) → I dx = some (.xd [(xf c, v)]) → Rd K I v d → Rd K I (.ref a) (.exc c [d])
  | dct {a ob kvs ks ds} : I a = some (.frz ob (.dK kvs)) → kvs.map (·.1) = ks.map Sum.inl → RdA K I (kvs.map (·.2)) ds → Rd K I (.ref a) (.dct ks ds)
  | dtt {a kvs ks ds} : I a = some (.dT kvs) → kvs.map (·.1) = ks.map (fun k => k.map Sum.inl) → RdA K I (kvs.map (·.2)) ds → Rd K I (.ref a) (.dtt ks ds)
  | adr {a} : Rd K I (.ref a) (.adr a)
inductive RdA (K : PySem.W.Frag) (I : Hp) : List V → List D → Prop
  | nil : RdA K I [] []
  | cons {v d vs ds} : Rd K I v d → RdA K I vs ds → RdA K I (v :: vs) (d :: ds)
end
section
variable {K : PySem.W.Frag} {I I' J : Hp}
mutual
theorem Rd.mono (e : Ex I I') : ∀ {v : V} {d : D}, Rd K I v d → Rd K I' v d
  | _, _, .non => .non
  | _, _, .bl => .bl
  | _, _, .int => .int
  | _, _, .str => .str
  | _, _, .lst h q => .lst (e _ _ h) (RdA.mono e q)
  | _, _, .tup h q => .tup (h.mono e) (RdA.mono e q)
  | _, _, .scr h => .scr (ex_l e h)
  | _, _, .obj h l q => .obj (e _ _ h) l (RdA.mono e q)
  | _, _, .exc0 h => .exc0 (e _ _ h)
  | _, _, .exc1 h k q => .exc1 (e _ _ h) (e _ _ k) (Rd.mono e q)
  | _, _, .dct h k q => .dct (e _ _ h) k (RdA.mono e q)
  | _, _, .dtt h k q => .dtt (e _ _ h) k (RdA.mono e q)
  | _, _, .adr => .adr
theorem RdA.mono (e : Ex I I') : ∀ {v : List V} {d : List D}, RdA K I v d → RdA K I' v d
  | _, _, .nil => .nil
  | _, _, .cons h q => .cons (Rd.mono e h) (RdA.mono e q)
end
theorem RdA.length : ∀ {vs : List V} {ds : List D}, RdA K I vs ds → vs.length = ds.length
  | _, _, .nil => rfl
  | _, _, .cons _ q => by rw [List.length_cons, List.length_cons, RdA.length q]
theorem RdA.get : ∀ {vs : List V} {ds : List D}, RdA K I vs ds → ∀ {i : Nat} {d : D}, ds[i]? = some d → ∃ v, vs[i]? = some v ∧ Rd K I v d
  | _, _, .nil, i, d, h => by simp at h
  | _, _, .cons h q, 0, d, e => by
    have e' := Option.some.inj e
    subst e'
    exact ⟨_, rfl, h⟩
  | _, _, .cons h q, i + 1, d, e => RdA.get q (i := i) e
theorem RdA.getV : ∀ {vs : List V} {ds : List D}, RdA K I vs ds → ∀ {i : Nat} {v : V}, vs[i]? = some v → ∃ d, ds[i]? = some d ∧ Rd K I v d
  | _, _, .nil, i, d, h => by simp at h
  | _, _, .cons h q, 0, d, e => by
    have e' := Option.some.inj e
    subst e'
    exact ⟨_, rfl, h⟩
  | _, _, .cons h q, i + 1, d, e => RdA.getV q (i := i) e
theorem RdA.append : ∀ {vs ws : List V} {ds es : List D}, RdA K I vs ds → RdA K I ws es → RdA K I (vs ++ ws) (ds ++ es)
  | _, _, _, _, .nil, h => h
  | _, _, _, _, .cons h q, k => .cons h (RdA.append q k)
theorem RdA.snoc {vs : List V} {ds : List D} {v : V} {d : D} (h : RdA K I vs ds) (k : Rd K I v d) : RdA K I (vs ++ [v]) (ds ++ [d]) := h.append (.cons k .nil)
theorem RdA.drop : ∀ (n : Nat) {vs : List V} {ds : List D}, RdA K I vs ds → RdA K I (vs.drop n) (ds.drop n)
  | 0, _, _, h => h
  | _ + 1, _, _, .nil => .nil
  | n + 1, _, _, .cons _ q => RdA.drop n q
theorem RdA.take : ∀ (n : Nat) {vs : List V} {ds : List D}, RdA K I vs ds → RdA K I (vs.take n) (ds.take n)
  | 0, _, _, h => by simp; exact .nil
  | _ + 1, _, _, .nil => .nil
  | n + 1, _, _, .cons h q => .cons h (RdA.take n q)
theorem RdA.set : ∀ {vs : List V} {ds : List D} {v : V} {d : D}, RdA K I vs ds → Rd K I v d → ∀ n, RdA K I (vs.set n v) (ds.set n d)
  | _, _, _, _, .nil, _, _ => .nil
  | _, _, _, _, .cons _ q, k, 0 => .cons k q
  | _, _, _, _, .cons h q, k, n + 1 => .cons h (RdA.set q k n)
theorem RdA.reverse : ∀ {vs : List V} {ds : List D}, RdA K I vs ds → RdA K I vs.reverse ds.reverse
  | _, _, .nil => .nil
  | _, _, .cons h q => by
    rw [List.reverse_cons, List.reverse_cons]
    exact (RdA.reverse q).snoc h
theorem RdA.ints : ∀ {ns : List Int}, RdA K I (ns.map V.int) (ns.map D.int)
  | [] => .nil
  | _ :: _ => .cons .int RdA.ints
/-- scalars: their value hangs on no heap -/
def D.sc : D → Option V
  | .non => some .non
  | .bl b => some (.bl b)
  | .int i => some (.int i)
  | .str z => some (.str z)
  | _ => none
theorem Rd.sc {v w : V} {d : D} (h : Rd K I v d) (e : d.sc = some w) : v = w := by
  cases h <;> first | exact Option.some.inj e | cases e
theorem Rd.of_sc {w : V} {d : D} (e : d.sc = some w) : Rd K I w d := by
  cases d <;> first | (have e' := Option.some.inj e; subst e'; constructor) | cases e
theorem Rd.sc_any {v : V} {d : D} {w : V} (h : Rd K I v d) (e : d.sc = some w) : Rd K J v d := by
  rw [h.sc e]
  exact Rd.of_sc e
end

/-! ### heaps that grow -/
structure Grow (I H I' H' : Hp) : Prop where
  i : Ex I I'
  h : Ex H H'
  ih : Ex I' H'
  new : ∀ a o, I' a = some o → I a = some o ∨ H a = none
theorem Grow.refl {I H : Hp} (e : Ex I H) : Grow I H I H := ⟨Ex.refl _, Ex.refl _, e, fun _ _ h => .inl h⟩
theorem Grow.trans {I H I1 H1 I2 H2 : Hp} (a : Grow I H I1 H1) (b : Grow I1 H1 I2 H2) : Grow I H I2 H2 :=
  ⟨a.i.trans b.i, a.h.trans b.h, b.ih, fun x o h => (b.new x o h).elim (fun z => a.new x o z) fun z => .inr (Evl.fresh_back a.h z)⟩
/-- a new object, told -/
theorem Grow.push {I H : Hp} {p : Addr} {o : HO} (e : Ex I H) (h : H p = none) : Grow I H (upd I p o) (upd H p o) := by
  have hi : I p = none := Evl.fresh_back e h
  refine ⟨Ex.new hi, Ex.new h, fun a u q => ?_, fun a u q => ?_⟩
  · by_cases z : a = p
    · subst z
      rw [upd_same] at q ⊢
      exact q
    · rw [upd_ne z] at q ⊢
      exact e a u q
  · by_cases z : a = p
    · subst z
      exact .inr h
    · rw [upd_ne z] at q
      exact .inl q
/-- a new object that is told of no further -/
theorem Grow.hid {I H H' : Hp} (e : Ex I H) (h : Ex H H') : Grow I H I H' := ⟨Ex.refl _, h, e.trans h, fun _ _ q => .inl q⟩

/-! ### what is private -/
/-- without lists -/
def nol (I : Hp) : Hp := fun a => match I a with
  | some (.lst _) => none
  | o => o
def mrg (I J : Hp) : Hp := fun a => match I a with
  | some o => some o
  | none => J a
theorem nol_some {I : Hp} {a : Addr} {o : HO} (h : nol I a = some o) : I a = some o ∧ ∀ vs, o ≠ .lst vs := by
  unfold nol at h
  split at h
  · cases h
  · rename_i hn
    exact ⟨h, fun vs e => hn vs (by rw [h, e])⟩
theorem nol_mk {I : Hp} {a : Addr} {o : HO} (h : I a = some o) (hn : ∀ vs, o ≠ .lst vs) : nol I a = some o := by
  unfold nol
  rw [h]
  cases o <;> first | rfl | exact absurd rfl (hn _)
theorem nol_mono {I I' : Hp} (e : Ex I I') : Ex (nol I) (nol I') := fun a o h => by
  obtain ⟨h1, h2⟩ := nol_some h
  exact nol_mk (e a o h1) h2
theorem nol_none {I : Hp} {a : Addr} (h : I a = none) : nol I a = none := by unfold nol; rw [h]
theorem mrg_l {I J : Hp} {a : Addr} {o : HO} (h : I a = some o) : mrg I J a = some o := by unfold mrg; rw [h]
theorem mrg_r {I J : Hp} {a : Addr} (h : I a = none) : mrg I J a = J a := by unfold mrg; rw [h]
theorem mrg_or {I J : Hp} {a : Addr} {o : HO} (h : mrg I J a = some o) : I a = some o ∨ (I a = none ∧ J a = some o) := by
  cases q : I a with
  | some u => rw [mrg_l q] at h; exact .inl h
  | none => rw [mrg_r q] at h; exact .inr ⟨rfl, h⟩
theorem mrg_mono {I I' J : Hp} (e : Ex I I') (hj : ∀ a o, J a = some o → I' a = none) : Ex (mrg (nol I) J) (mrg (nol I') J) := fun a o h => by
  rcases mrg_or h with z | ⟨_, z⟩
  · exact mrg_l (nol_mono e a o z)
  · rw [mrg_r (nol_none (hj a o z))]
    exact z
theorem mrg_ex {I J H : Hp} (e : Ex I H) (j : Ex J H) : Ex (mrg (nol I) J) H := fun a o h => by
  rcases mrg_or h with z | ⟨_, z⟩
  · exact e a o (nol_some z).1
  · exact j a o z
theorem set_get {env : En} {i j : Nat} {s t : Sl} (h : (env.set i s)[j]? = some t) : (i = j ∧ t = s) ∨ (i ≠ j ∧ env[j]? = some t) := by
  by_cases c : i = j
  · subst c
    have hl : i < env.length := by
      have := (List.getElem?_eq_some_iff.mp h).1
      rwa [List.length_set] at this
    rw [List.getElem?_set_self hl] at h
    exact .inl ⟨rfl, (Option.some.inj h).symm⟩
  · rw [List.getElem?_set_ne c] at h
    exact .inr ⟨c, h⟩
/-- at most b values, the first k of them lists of J of at most b values -/
def Lsk (J : Hp) (k b : Nat) (vs : List V) : Prop := vs.length ≤ b ∧ ∀ i, i < k → ∃ q us, vs[i]? = some (.ref q) ∧ J q = some (.lst us) ∧ us.length ≤ b
def RdW (K : PySem.W.Frag) (I J : Hp) (v : V) : Ow → Prop
  | .d d => Rd K (mrg (nol I) J) v d
  | .n k b => ∃ p vs, v = .ref p ∧ J p = some (.lst vs) ∧ Lsk J k b vs
theorem RdW.mono {K : PySem.W.Frag} {I I' J : Hp} {v : V} {d : Ow} (h : RdW K I J v d) (e : Ex (mrg (nol I) J) (mrg (nol I') J)) : RdW K I' J v d := by
  cases d with
  | d d => exact Rd.mono e h
  | n k b => exact h
/-- a private part -/
structure Own (env : En) (σ : L2.St) (I H0 H J : Hp) : Prop where
  h : Ex J H
  i : ∀ a o, J a = some o → I a = none
  z : ∀ a o, J a = some o → H0 a = none
  l : ∀ a o, J a = some o → ∃ vs, o = .lst vs
  mu : ∀ (j : Nat) (l : List D) (a : Addr), env[j]? = some (Sl.mu l) → σ[j]? = some (some (V.ref a)) → J a = none
  md : ∀ (j : Nat) (ks : List Int) (l : List D) (a : Addr), env[j]? = some (Sl.md ks l) → σ[j]? = some (some (V.ref a)) → J a = none
def OwI (K : PySem.W.Frag) (env : En) (σ : L2.St) (I H0 H : Hp) : Prop := ∀ (i : Nat) (d : Ow), env[i]? = some (Sl.ow d) → ∃ v J, σ[i]? = some (some v) ∧ Own env σ I H0 H J ∧ RdW K I J v d
theorem OwI.next {K : PySem.W.Frag} {env env' : En} {σ σ' : L2.St} {I I' H0 H H' : Hp} (o : OwI K env σ I H0 H) (he : ∀ (j : Nat) (d : Ow), env'[j]? = some (Sl.ow d) → env[j]? = some (Sl.ow d) ∧ σ'[j]? = σ[j]?) (hi : Ex I I') (hJ : ∀ J, Own env σ I H0 H J → Own env' σ' I' H0 H' J) : OwI K env' σ' I' H0 H' := fun i d e => by
  obtain ⟨e1, e2⟩ := he i d e
  obtain ⟨v, J, h1, h2, h3⟩ := o i d e1
  exact ⟨v, J, by rw [e2]; exact h1, hJ J h2, h3.mono (mrg_mono hi (hJ J h2).i)⟩
/-- a slot that is set to what is neither own nor private -/
theorem Own.set {env : En} {σ : L2.St} {I H0 H J : Hp} (w : Own env σ I H0 H J) {i : Nat} {s : Sl} {x : Option V} (hm : ∀ l, s ≠ Sl.mu l) (hd : ∀ ks l, s ≠ Sl.md ks l) : Own (env.set i s) (σ.set i x) I H0 H J := by
  refine ⟨w.h, w.i, w.z, w.l, fun j l a e s => ?_, fun j ks l a e s => ?_⟩
  · rcases set_get e with ⟨_, z⟩ | ⟨hij, z⟩
    · exact absurd z.symm (hm l)
    · rw [List.getElem?_set_ne hij] at s
      exact w.mu j l a z s
  · rcases set_get e with ⟨_, z⟩ | ⟨hij, z⟩
    · exact absurd z.symm (hd ks l)
    · rw [List.getElem?_set_ne hij] at s
      exact w.md j ks l a z s
/-- no more slots are own -/
theorem Own.less {env env' : En} {σ σ' : L2.St} {I H0 H J : Hp} (w : Own env σ I H0 H J) (hm : ∀ (j : Nat) (l : List D), env'[j]? = some (Sl.mu l) → (∃ l', env[j]? = some (Sl.mu l')) ∧ σ'[j]? = σ[j]?) (hd : ∀ (j : Nat) (ks : List Int) (l : List D), env'[j]? = some (Sl.md ks l) → (∃ ks' l', env[j]? = some (Sl.md ks' l')) ∧ σ'[j]? = σ[j]?) : Own env' σ' I H0 H J := by
  refine ⟨w.h, w.i, w.z, w.l, fun j l a e s => ?_, fun j ks l a e s => ?_⟩
  · obtain ⟨⟨l', z⟩, y⟩ := hm j l e
    rw [y] at s
    exact w.mu j l' a z s
  · obtain ⟨⟨ks', l', z⟩, y⟩ := hd j ks l e
    rw [y] at s
    exact w.md j ks' l' a z s
/-- the heap changed elsewhere -/
theorem Own.heap {env : En} {σ : L2.St} {I H0 H H' J : Hp} (w : Own env σ I H0 H J) (h : Ex J H') : Own env σ I H0 H' J := ⟨h, w.i, w.z, w.l, w.mu, w.md⟩
theorem ex_upd {J H : Hp} {a : Addr} {o : HO} (h : Ex J H) (n : J a = none) : Ex J (upd H a o) := fun b u z => by
  have nb : b ≠ a := fun e => by rw [e, n] at z; cases z
  rw [upd_ne nb]
  exact h b u z

/-! ### environments -/
/-- an own desk whose history changes (its address may be told) -/
structure DkI (K : PySem.W.Frag) (env : En) (σ : L2.St) (I H0 H : Hp) : Prop where
  at_ : ∀ (i : Nat) (o : Option Addr) (h : D), env[i]? = some (Sl.dk o h) → ∃ x dx v, σ[i]? = some (some (V.ref x)) ∧ H x = some (.ins (CL K 1) dx [("history", v)]) ∧ I x = none ∧ H0 x = none ∧ Rd K I v h ∧ ∀ y, o = some y → y = x
  ap : ∀ (i j : Nat) (o p : Option Addr) (h g : D) (x : Addr), env[i]? = some (Sl.dk o h) → env[j]? = some (Sl.dk p g) → σ[i]? = some (some (V.ref x)) → σ[j]? = some (some (V.ref x)) → i = j
theorem DkI.next {K : PySem.W.Frag} {env env' : En} {σ σ' : L2.St} {I I' H0 H H' : Hp} (k : DkI K env σ I H0 H) (he : ∀ (j : Nat) (o : Option Addr) (d : D), env'[j]? = some (Sl.dk o d) → env[j]? = some (Sl.dk o d) ∧ σ'[j]? = σ[j]?) (hi : Ex I I') (hx : ∀ (x C : Addr) (dx : Addr) (ff : List (Str × V)), H x = some (.ins C dx ff) → I x = none → H' x = some (.ins C dx ff) ∧ I' x = none) : DkI K env' σ' I' H0 H' :=
  ⟨fun i o h e => by
    obtain ⟨e1, e2⟩ := he i o h e
    obtain ⟨x, dx, v, k1, k2, k3, k4, k5, k8⟩ := k.at_ i o h e1
    obtain ⟨k6, k7⟩ := hx x _ dx _ k2 k3
    exact ⟨x, dx, v, by rw [e2]; exact k1, k6, k7, k4, k5.mono hi, k8⟩, fun i j o p h g x e1 e2 e3 e4 => by
    obtain ⟨a1, a2⟩ := he i o h e1
    obtain ⟨b1, b2⟩ := he j p g e2
    exact k.ap i j o p h g x a1 b1 (by rw [← a2]; exact e3) (by rw [← b2]; exact e4)⟩
theorem DkI.none {K : PySem.W.Frag} {env : En} {σ : L2.St} {I H0 H : Hp} (h : ∀ (i : Nat) (o : Option Addr) (d : D), env[i]? ≠ some (Sl.dk o d)) : DkI K env σ I H0 H := ⟨fun i o d e => absurd e (h i o d), fun i _ o _ d _ _ e _ _ _ => absurd e (h i o d)⟩
structure Rel (K : PySem.W.Frag) (A H0 : Hp) (env : En) (σ : L2.St) (I H : Hp) : Prop where
  g : Grow A H0 I H
  len : σ.length = env.length
  im : ∀ (i : Nat) (d : D), env[i]? = some (Sl.im d) → ∃ v, σ[i]? = some (some v) ∧ Rd K I v d
  mu : ∀ (i : Nat) (l : List D), env[i]? = some (Sl.mu l) → ∃ a vs, σ[i]? = some (some (V.ref a)) ∧ H a = some (.lst vs) ∧ I a = none ∧ H0 a = none ∧ RdA K I vs l
  bo : ∀ (i : Nat) (d : D), env[i]? = some (Sl.bo d) → ∃ v, σ[i]? = some (some v) ∧ Rd K H0 v d
  ap : ∀ (i j : Nat) (l m : List D) (a : Addr), env[i]? = some (Sl.mu l) → env[j]? = some (Sl.mu m) → σ[i]? = some (some (V.ref a)) → σ[j]? = some (some (V.ref a)) → i = j
  md : ∀ (i : Nat) (ks : List Int) (l : List D), env[i]? = some (Sl.md ks l) → ∃ a kvs, σ[i]? = some (some (V.ref a)) ∧ H a = some (.dK kvs) ∧ I a = none ∧ H0 a = none ∧ kvs.map (·.1) = ks.map Sum.inl ∧ RdA K I (kvs.map (·.2)) l
  apd : ∀ (i j : Nat) (ks ls : List Int) (l m : List D) (a : Addr), env[i]? = some (Sl.md ks l) → env[j]? = some (Sl.md ls m) → σ[i]? = some (some (V.ref a)) → σ[j]? = some (some (V.ref a)) → i = j
  ow : OwI K env σ I H0 H
  dk : DkI K env σ I H0 H
section
variable {K : PySem.W.Frag} {A H0 : Hp} {env : En} {σ : L2.St} {I H I' H' : Hp}
theorem Rel.grow (r : Rel K A H0 env σ I H) (g : Grow I H I' H') : Rel K A H0 env σ I' H' := by
  refine ⟨r.g.trans g, r.len, fun i d e => ?_, fun i l e => ?_, r.bo, r.ap, fun i ks l e => ?_, r.apd, ?_, ?_⟩
  · obtain ⟨v, h1, h2⟩ := r.im i d e
    exact ⟨v, h1, h2.mono g.i⟩
  · obtain ⟨a, vs, h1, h2, h3, h4, h5⟩ := r.mu i l e
    refine ⟨a, vs, h1, g.h _ _ h2, ?_, h4, h5.mono g.i⟩
    cases q : I' a with
    | none => rfl
    | some o =>
      rcases g.new a o q with z | z
      · rw [h3] at z
        cases z
      · rw [h2] at z
        cases z
  · obtain ⟨a, vs, h1, h2, h3, h4, h5, h6⟩ := r.md i ks l e
    refine ⟨a, vs, h1, g.h _ _ h2, ?_, h4, h5, h6.mono g.i⟩
    cases q : I' a with
    | none => rfl
    | some o =>
      rcases g.new a o q with z | z
      · rw [h3] at z
        cases z
      · rw [h2] at z
        cases z
  · exact r.ow.next (fun j d e => ⟨e, rfl⟩) g.i fun J w => ⟨w.h.trans g.h, (fun a o e => by
      cases q : I' a with
      | none => rfl
      | some u =>
        rcases g.new a u q with z | z
        · rw [w.i a o e] at z; cases z
        · rw [w.h a o e] at z; cases z), w.z, w.l, w.mu, w.md⟩
  · exact r.dk.next (fun j o d e => ⟨e, rfl⟩) g.i fun x C dx ff e1 e2 => ⟨g.h _ _ e1, by
      cases q : I' x with
      | none => rfl
      | some o =>
        rcases g.new x o q with z | z
        · rw [e2] at z; cases z
        · rw [e1] at z; cases z⟩
/-- a new address is in no private part -/
theorem Rel.owf (r : Rel K A H0 env σ I H) (g : Grow I H I' H') {p : Addr} (hp : H p = none) : ∀ (j : Nat) (d : Ow), env[j]? = some (Sl.ow d) → ∃ v J, σ[j]? = some (some v) ∧ Own env σ I' H0 H' J ∧ J p = none ∧ RdW K I' J v d := fun j d e => by
  obtain ⟨v, J, h1, w, h3⟩ := r.ow j d e
  have w' : Own env σ I' H0 H' J := ⟨w.h.trans g.h, (fun a o e => by
    cases q : I' a with
    | none => rfl
    | some u =>
      rcases g.new a u q with z | z
      · rw [w.i a o e] at z; cases z
      · rw [w.h a o e] at z; cases z), w.z, w.l, w.mu, w.md⟩
  exact ⟨v, J, h1, w', Evl.fresh_back w.h hp, h3.mono (mrg_mono g.i w'.i)⟩
theorem Rel.set_im (r : Rel K A H0 env σ I H) {i : Nat} {v : V} {d : D} (h : Rd K I v d) : Rel K A H0 (env.set i (Sl.im d)) (σ.set i (some v)) I H := by
  have key : ∀ j, i ≠ j → (env.set i (Sl.im d))[j]? = env[j]? ∧ (σ.set i (some v))[j]? = σ[j]? := fun j hj => ⟨List.getElem?_set_ne hj, List.getElem?_set_ne hj⟩
  refine ⟨r.g, by rw [List.length_set, List.length_set, r.len], fun j e he => ?_, fun j l he => ?_, fun j e he => ?_, fun j k l m a h1 h2 h3 h4 => ?_, fun j ks l he => ?_, fun j k ks ls l m a h1 h2 h3 h4 => ?_, ?_, ?_⟩
  · by_cases hj : i = j
    · subst hj
      have hl : i < env.length := by
        have := (List.getElem?_eq_some_iff.mp he).1
        rwa [List.length_set] at this
      rw [List.getElem?_set_self hl] at he
      cases he
      exact ⟨v, List.getElem?_set_self (by rw [r.len]; exact hl), h⟩
    · rw [(key j hj).1] at he
      rw [(key j hj).2]
      exact r.im j e he
  · by_cases hj : i = j
    · subst hj
      have hl : i < env.length := by
        have := (List.getElem?_eq_some_iff.mp he).1
        rwa [List.length_set] at this
      rw [List.getElem?_set_self hl] at he
      cases he
    · rw [(key j hj).1] at he
      rw [(key j hj).2]
      exact r.mu j l he
  · by_cases hj : i = j
    · subst hj
      have hl : i < env.length := by
        have := (List.getElem?_eq_some_iff.mp he).1
        rwa [List.length_set] at this
      rw [List.getElem?_set_self hl] at he
      cases he
    · rw [(key j hj).1] at he
      rw [(key j hj).2]
      exact r.bo j e he
  · have f : ∀ j l, (env.set i (Sl.im d))[j]? = some (Sl.mu l) → i ≠ j := fun j l he hj => by
      subst hj
      have hl : i < env.length := by
        have := (List.getElem?_eq_some_iff.mp he).1
        rwa [List.length_set] at this
      rw [List.getElem?_set_self hl] at he
      cases he
    have n1 := f _ _ h1
    have n2 := f _ _ h2
    rw [(key _ n1).1] at h1
    rw [(key _ n2).1] at h2
    rw [(key _ n1).2] at h3
    rw [(key _ n2).2] at h4
    exact r.ap j k l m a h1 h2 h3 h4
  · by_cases hj : i = j
    · subst hj
      have hl : i < env.length := by
        have := (List.getElem?_eq_some_iff.mp he).1
        rwa [List.length_set] at this
      rw [List.getElem?_set_self hl] at he
      cases he
    · rw [(key j hj).1] at he
      rw [(key j hj).2]
      exact r.md j ks l he
  · have f : ∀ j ks l, (env.set i (Sl.im d))[j]? = some (Sl.md ks l) → i ≠ j := fun j ks l he hj => by
      subst hj
      have hl : i < env.length := by
        have := (List.getElem?_eq_some_iff.mp he).1
        rwa [List.length_set] at this
      rw [List.getElem?_set_self hl] at he
      cases he
    have n1 := f _ _ _ h1
    have n2 := f _ _ _ h2
    rw [(key _ n1).1] at h1
    rw [(key _ n2).1] at h2
    rw [(key _ n1).2] at h3
    rw [(key _ n2).2] at h4
    exact r.apd j k ks ls l m a h1 h2 h3 h4
  · exact r.ow.next (fun j d e => by
      rcases set_get e with ⟨_, z⟩ | ⟨hij, z⟩
      · cases z
      · exact ⟨z, List.getElem?_set_ne hij⟩) (Ex.refl _) fun J w => w.set (fun _ z => nomatch z) (fun _ _ z => nomatch z)
  · exact r.dk.next (fun j o d e => by
      rcases set_get e with ⟨_, z⟩ | ⟨hij, z⟩
      · cases z
      · exact ⟨z, List.getElem?_set_ne hij⟩) (Ex.refl _) fun x C dx ff e1 e2 => ⟨e1, e2⟩
/-- a new list, held by one name alone -/
theorem Rel.set_mu (r : Rel K A H0 env σ I H) {i : Nat} {p : Addr} {vs : List V} {l : List D} (hi : I p = none) (h0 : H0 p = none) (hp : H p = some (.lst vs)) (h : RdA K I vs l)
    (ap : ∀ (j : Nat) (m : List D), env[j]? = some (Sl.mu m) → σ[j]? ≠ some (some (V.ref p))) (ao : ∀ (j : Nat) (d : Ow), env[j]? = some (Sl.ow d) → ∃ v J, σ[j]? = some (some v) ∧ Own env σ I H0 H J ∧ J p = none ∧ RdW K I J v d) : Rel K A H0 (env.set i (Sl.mu l)) (σ.set i (some (.ref p))) I H := by
  have key : ∀ j, i ≠ j → (env.set i (Sl.mu l))[j]? = env[j]? ∧ (σ.set i (some (.ref p)))[j]? = σ[j]? := fun j hj => ⟨List.getElem?_set_ne hj, List.getElem?_set_ne hj⟩
  have slf : ∀ s, (env.set i (Sl.mu l))[i]? = some s → s = Sl.mu l ∧ (σ.set i (some (.ref p)))[i]? = some (some (V.ref p)) := fun s he => by
    have hl : i < env.length := by
      have := (List.getElem?_eq_some_iff.mp he).1
      rwa [List.length_set] at this
    rw [List.getElem?_set_self hl] at he
    exact ⟨(Option.some.inj he).symm, List.getElem?_set_self (by rw [r.len]; exact hl)⟩
  refine ⟨r.g, by rw [List.length_set, List.length_set, r.len], fun j e he => ?_, fun j m he => ?_, fun j e he => ?_, fun j k m n a h1 h2 h3 h4 => ?_, fun j ks m he => ?_, fun j k ks ls m n a h1 h2 h3 h4 => ?_, ?_, ?_⟩
  · by_cases hj : i = j
    · subst hj
      cases (slf _ he).1
    · rw [(key j hj).1] at he
      rw [(key j hj).2]
      exact r.im j e he
  · by_cases hj : i = j
    · subst hj
      cases (slf _ he).1
      exact ⟨p, vs, (slf _ he).2, hp, hi, h0, h⟩
    · rw [(key j hj).1] at he
      rw [(key j hj).2]
      exact r.mu j m he
  · by_cases hj : i = j
    · subst hj
      cases (slf _ he).1
    · rw [(key j hj).1] at he
      rw [(key j hj).2]
      exact r.bo j e he
  · by_cases hj : i = j
    · by_cases hk : i = k
      · rw [← hj, ← hk]
      · subst hj
        rw [(slf _ h1).2] at h3
        have ea : p = a := V.ref.inj (Option.some.inj (Option.some.inj h3))
        subst ea
        rw [(key k hk).1] at h2
        rw [(key k hk).2] at h4
        exact absurd h4 (ap k n h2)
    · by_cases hk : i = k
      · subst hk
        rw [(slf _ h2).2] at h4
        have ea : p = a := V.ref.inj (Option.some.inj (Option.some.inj h4))
        subst ea
        rw [(key j hj).1] at h1
        rw [(key j hj).2] at h3
        exact absurd h3 (ap j m h1)
      · rw [(key _ hj).1] at h1
        rw [(key _ hk).1] at h2
        rw [(key _ hj).2] at h3
        rw [(key _ hk).2] at h4
        exact r.ap j k m n a h1 h2 h3 h4
  · by_cases hj : i = j
    · subst hj
      cases (slf _ he).1
    · rw [(key j hj).1] at he
      rw [(key j hj).2]
      exact r.md j ks m he
  · have f : ∀ j ks l2, (env.set i (Sl.mu l))[j]? = some (Sl.md ks l2) → i ≠ j := fun j ks l2 he hj => by
      subst hj
      cases (slf _ he).1
    have n1 := f _ _ _ h1
    have n2 := f _ _ _ h2
    rw [(key _ n1).1] at h1
    rw [(key _ n2).1] at h2
    rw [(key _ n1).2] at h3
    rw [(key _ n2).2] at h4
    exact r.apd j k ks ls m n a h1 h2 h3 h4
  · exact fun j d e => by
      rcases set_get e with ⟨_, z⟩ | ⟨hij, z⟩
      · cases z
      · obtain ⟨v, J, q1, q2, q3, q4⟩ := ao j d z
        refine ⟨v, J, by rw [List.getElem?_set_ne hij]; exact q1, ⟨q2.h, q2.i, q2.z, q2.l, fun k m a e s => ?_, fun k ks m a e s => ?_⟩, q4⟩
        · by_cases c : i = k
          · subst c
            rw [(slf _ e).2] at s
            have ea : p = a := V.ref.inj (Option.some.inj (Option.some.inj s))
            rw [← ea]; exact q3
          · rw [(key k c).1] at e
            rw [(key k c).2] at s
            exact q2.mu k m a e s
        · by_cases c : i = k
          · subst c
            cases (slf _ e).1
          · rw [(key k c).1] at e
            rw [(key k c).2] at s
            exact q2.md k ks m a e s
  · exact r.dk.next (fun j o d e => by
      rcases set_get e with ⟨_, z⟩ | ⟨hij, z⟩
      · cases z
      · exact ⟨z, List.getElem?_set_ne hij⟩) (Ex.refl _) fun x C dx ff e1 e2 => ⟨e1, e2⟩
/-- the list of one name changed -/
theorem Rel.chg (r : Rel K A H0 env σ I H) {i : Nat} {a : Addr} {l m : List D} {ws : List V} (he : env[i]? = some (Sl.mu l)) (hs : σ[i]? = some (some (V.ref a))) (h : RdA K I ws m) : Rel K A H0 (env.set i (Sl.mu m)) σ I (upd H a (.lst ws)) := by
  obtain ⟨a', vs, h1, h2, h3, h4, h5⟩ := r.mu i l he
  have ea : a' = a := V.ref.inj (Option.some.inj (Option.some.inj (h1.symm.trans hs)))
  subst ea
  have hl : i < env.length := (List.getElem?_eq_some_iff.mp he).1
  have key : ∀ j, i ≠ j → (env.set i (Sl.mu m))[j]? = env[j]? := fun j hj => List.getElem?_set_ne hj
  have slf : (env.set i (Sl.mu m))[i]? = some (Sl.mu m) := List.getElem?_set_self hl
  have ie : Ex I (upd H a' (.lst ws)) := fun b o q => by
    by_cases z : b = a'
    · subst z
      rw [h3] at q
      cases q
    · rw [upd_ne z]
      exact r.g.ih b o q
  refine ⟨⟨r.g.i, fun b o q => ?_, ie, r.g.new⟩, by rw [List.length_set, r.len], fun j e hj => ?_, fun j n hj => ?_, fun j e hj => ?_, fun j k n o b q1 q2 q3 q4 => ?_, fun j ks n hj => ?_, fun j k ks ls n o b q1 q2 q3 q4 => ?_, ?_, ?_⟩
  · by_cases z : b = a'
    · subst z
      rw [h4] at q
      cases q
    · rw [upd_ne z]
      exact r.g.h b o q
  · by_cases z : i = j
    · subst z
      rw [slf] at hj
      cases hj
    · rw [key j z] at hj
      exact r.im j e hj
  · by_cases z : i = j
    · subst z
      rw [slf] at hj
      cases hj
      exact ⟨a', ws, h1, upd_same, h3, h4, h⟩
    · rw [key j z] at hj
      obtain ⟨b, us, p1, p2, p3, p4, p5⟩ := r.mu j n hj
      refine ⟨b, us, p1, ?_, p3, p4, p5⟩
      rw [upd_ne (fun e => z (r.ap i j l n a' he hj h1 (by rw [← e]; exact p1)))]
      exact p2
  · by_cases z : i = j
    · subst z
      rw [slf] at hj
      cases hj
    · rw [key j z] at hj
      exact r.bo j e hj
  · have f : ∀ j n, (env.set i (Sl.mu m))[j]? = some (Sl.mu n) → ∃ n', env[j]? = some (Sl.mu n') := fun j n hj => by
      by_cases z : i = j
      · subst z
        exact ⟨l, he⟩
      · rw [key j z] at hj
        exact ⟨n, hj⟩
    obtain ⟨n', e1⟩ := f j n q1
    obtain ⟨o', e2⟩ := f k o q2
    exact r.ap j k n' o' b e1 e2 q3 q4
  · by_cases z : i = j
    · subst z
      rw [slf] at hj
      cases hj
    · rw [key j z] at hj
      obtain ⟨b, us, p1, p2, p3, p4, p5, p6⟩ := r.md j ks n hj
      refine ⟨b, us, p1, ?_, p3, p4, p5, p6⟩
      have nb : b ≠ a' := fun e => by rw [e, h2] at p2; cases p2
      rw [upd_ne nb]
      exact p2
  · have f : ∀ j ks n, (env.set i (Sl.mu m))[j]? = some (Sl.md ks n) → env[j]? = some (Sl.md ks n) := fun j ks n hj => by
      by_cases z : i = j
      · subst z
        rw [slf] at hj
        cases hj
      · rw [key j z] at hj
        exact hj
    exact r.apd j k ks ls n o b (f j ks n q1) (f k ls o q2) q3 q4
  · exact r.ow.next (fun j d e => by
      rcases set_get e with ⟨_, z⟩ | ⟨hij, z⟩
      · cases z
      · exact ⟨z, rfl⟩) (Ex.refl _) fun J w => (w.less (fun j n e => by
        rcases set_get e with ⟨z, _⟩ | ⟨_, z⟩
        · subst z; exact ⟨⟨l, he⟩, rfl⟩
        · exact ⟨⟨n, z⟩, rfl⟩) (fun j ks n e => by
        rcases set_get e with ⟨_, z⟩ | ⟨_, z⟩
        · cases z
        · exact ⟨⟨ks, n, z⟩, rfl⟩)).heap (ex_upd w.h (w.mu i l a' he h1))
  · exact r.dk.next (fun j o d e => by
      rcases set_get e with ⟨_, z⟩ | ⟨_, z⟩
      · cases z
      · exact ⟨z, rfl⟩) (Ex.refl _) fun x C dx ff e1 e2 => ⟨by rw [upd_ne fun y => by rw [y, h2] at e1; cases e1]; exact e1, e2⟩
/-- a list that is changed no more -/
theorem Rel.freezeL (r : Rel K A H0 env σ I H) {i : Nat} {l : List D} (he : env[i]? = some (Sl.mu l)) : ∃ I', Ex I I' ∧ (∀ b o, I' b = some o → I b = some o ∨ ∃ us, o = .lst us) ∧ Rel K A H0 (env.set i (Sl.im (.lst l))) σ I' H := by
  obtain ⟨a, vs, h1, h2, h3, h4, h5⟩ := r.mu i l he
  have ie : Ex I (upd I a (.lst vs)) := Ex.new h3
  have hl : i < env.length := (List.getElem?_eq_some_iff.mp he).1
  have key : ∀ j, i ≠ j → (env.set i (Sl.im (.lst l)))[j]? = env[j]? := fun j hj => List.getElem?_set_ne hj
  have slf : (env.set i (Sl.im (.lst l)))[i]? = some (Sl.im (.lst l)) := List.getElem?_set_self hl
  refine ⟨upd I a (.lst vs), ie, fun b o q => ?_, ⟨⟨r.g.i.trans ie, r.g.h, fun b o q => ?_, fun b o q => ?_⟩, by rw [List.length_set, r.len], fun j e hj => ?_, fun j n hj => ?_, fun j e hj => ?_, fun j k n o b q1 q2 q3 q4 => ?_, fun j ks n hj => ?_, fun j k ks ls n o b q1 q2 q3 q4 => ?_, ?_, ?_⟩⟩
  · by_cases z : b = a
    · subst z
      rw [upd_same] at q
      exact .inr ⟨vs, (Option.some.inj q).symm⟩
    · rw [upd_ne z] at q
      exact .inl q
  · by_cases z : b = a
    · subst z
      rw [upd_same] at q
      rw [← q]
      exact h2
    · rw [upd_ne z] at q
      exact r.g.ih b o q
  · by_cases z : b = a
    · subst z
      exact .inr h4
    · rw [upd_ne z] at q
      exact r.g.new b o q
  · by_cases z : i = j
    · subst z
      rw [slf] at hj
      cases hj
      exact ⟨_, h1, .lst upd_same (h5.mono ie)⟩
    · rw [key j z] at hj
      obtain ⟨v, p1, p2⟩ := r.im j e hj
      exact ⟨v, p1, p2.mono ie⟩
  · by_cases z : i = j
    · subst z
      rw [slf] at hj
      cases hj
    · rw [key j z] at hj
      obtain ⟨b, us, p1, p2, p3, p4, p5⟩ := r.mu j n hj
      refine ⟨b, us, p1, p2, ?_, p4, p5.mono ie⟩
      rw [upd_ne (fun e => z (r.ap i j l n a he hj h1 (by rw [← e]; exact p1)))]
      exact p3
  · by_cases z : i = j
    · subst z
      rw [slf] at hj
      cases hj
    · rw [key j z] at hj
      exact r.bo j e hj
  · have f : ∀ j n, (env.set i (Sl.im (.lst l)))[j]? = some (Sl.mu n) → env[j]? = some (Sl.mu n) := fun j n hj => by
      by_cases z : i = j
      · subst z
        rw [slf] at hj
        cases hj
      · rw [key j z] at hj
        exact hj
    exact r.ap j k n o b (f j n q1) (f k o q2) q3 q4
  · by_cases z : i = j
    · subst z
      rw [slf] at hj
      cases hj
    · rw [key j z] at hj
      obtain ⟨b, us, p1, p2, p3, p4, p5, p6⟩ := r.md j ks n hj
      refine ⟨b, us, p1, p2, ?_, p4, p5, p6.mono ie⟩
      have nb : b ≠ a := fun e => by rw [e, h2] at p2; cases p2
      rw [upd_ne nb]
      exact p3
  · have f : ∀ j ks n, (env.set i (Sl.im (.lst l)))[j]? = some (Sl.md ks n) → env[j]? = some (Sl.md ks n) := fun j ks n hj => by
      by_cases z : i = j
      · subst z
        rw [slf] at hj
        cases hj
      · rw [key j z] at hj
        exact hj
    exact r.apd j k ks ls n o b (f j ks n q1) (f k ls o q2) q3 q4
  · exact r.ow.next (fun j d e => by
      rcases set_get e with ⟨_, z⟩ | ⟨hij, z⟩
      · cases z
      · exact ⟨z, rfl⟩) ie fun J w => (fun w' => ⟨w'.h, fun b o q => by
        have nb : b ≠ a := fun e => by rw [e, w.mu i l a he h1] at q; cases q
        rw [upd_ne nb]
        exact w.i b o q, w'.z, w'.l, w'.mu, w'.md⟩) (w.less (fun j n e => by
        rcases set_get e with ⟨_, z⟩ | ⟨_, z⟩
        · cases z
        · exact ⟨⟨n, z⟩, rfl⟩) (fun j ks n e => by
        rcases set_get e with ⟨_, z⟩ | ⟨_, z⟩
        · cases z
        · exact ⟨⟨ks, n, z⟩, rfl⟩))
  · exact r.dk.next (fun j o d e => by
      rcases set_get e with ⟨_, z⟩ | ⟨_, z⟩
      · cases z
      · exact ⟨z, rfl⟩) ie fun x C dx ff e1 e2 => ⟨e1, by rw [upd_ne fun y => by rw [y, h2] at e1; cases e1]; exact e2⟩
theorem Rel.freeze (r : Rel K A H0 env σ I H) {i : Nat} {l : List D} (he : env[i]? = some (Sl.mu l)) : ∃ I', Ex I I' ∧ Rel K A H0 (env.set i (Sl.im (.lst l))) σ I' H :=
  let ⟨I', e, _, h⟩ := r.freezeL he
  ⟨I', e, h⟩
/-- names forgotten -/
theorem Rel.less {env' : En} {σ' : L2.St} (r : Rel K A H0 env σ I H) (hl : env'.length = env.length) (hs : σ'.length = σ.length) (h : ∀ (i : Nat) (s : Sl), env'[i]? = some s → s = Sl.no ∨ (env[i]? = some s ∧ σ'[i]? = σ[i]?)) : Rel K A H0 env' σ' I H := by
  refine ⟨r.g, by rw [hs, hl, r.len], fun j e hj => ?_, fun j n hj => ?_, fun j e hj => ?_, fun j k n o b q1 q2 q3 q4 => ?_, fun j ks n hj => ?_, fun j k ks ls n o b q1 q2 q3 q4 => ?_, ?_, ?_⟩
  · rcases h j _ hj with z | ⟨z, y⟩
    · cases z
    · rw [y]
      exact r.im j e z
  · rcases h j _ hj with z | ⟨z, y⟩
    · cases z
    · rw [y]
      exact r.mu j n z
  · rcases h j _ hj with z | ⟨z, y⟩
    · cases z
    · rw [y]
      exact r.bo j e z
  · rcases h j _ q1 with z | ⟨z, y⟩
    · cases z
    · rcases h k _ q2 with x | ⟨x, w⟩
      · cases x
      · rw [y] at q3
        rw [w] at q4
        exact r.ap j k n o b z x q3 q4
  · rcases h j _ hj with z | ⟨z, y⟩
    · cases z
    · rw [y]
      exact r.md j ks n z
  · rcases h j _ q1 with z | ⟨z, y⟩
    · cases z
    · rcases h k _ q2 with x | ⟨x, w⟩
      · cases x
      · rw [y] at q3
        rw [w] at q4
        exact r.apd j k ks ls n o b z x q3 q4
  · exact r.ow.next (fun j d e => by
      rcases h j _ e with z | ⟨z, y⟩
      · cases z
      · exact ⟨z, y⟩) (Ex.refl _) fun J w => w.less (fun j n e => by
      rcases h j _ e with z | ⟨z, y⟩
      · cases z
      · exact ⟨⟨n, z⟩, y⟩) (fun j ks n e => by
      rcases h j _ e with z | ⟨z, y⟩
      · cases z
      · exact ⟨⟨ks, n, z⟩, y⟩)
  · exact r.dk.next (fun j o d e => by
      rcases h j _ e with z | ⟨z, y⟩
      · cases z
      · exact ⟨z, y⟩) (Ex.refl _) fun x C dx ff e1 e2 => ⟨e1, e2⟩
end
end BW
/-! BCore2: what an expression tells, as a function of the environment. -/
namespace BW
open PySem PySem.Spec PyProof.Rows L2
open Evl (Ex Ex.refl Ex.trans Ex.new ex_rd ex_l ex_t)

/-! ### functions of environments -/
abbrev F := En → R D
def fI (i : Nat) : F := fun env => match env[i]? with
  | some (.im d) => .ok d
  | _ => .no
def fL (i : Nat) : F := fun env => match env[i]? with
  | some (.im d) => .ok d
  | some (.bo d) => .ok d
  | some (.mu l) => .ok (.lst l)
  | some (.ow (.d d)) => .ok d
  | _ => .no
def fC (d : D) : F := fun _ => .ok d
def f1 (g : D → R D) (a : F) : F := fun env => (a env).bind g
def f2 (g : D → D → R D) (a b : F) : F := fun env => (a env).bind fun x => (b env).bind fun y => g x y
def fIf (t a b : F) : F := fun env => (t env).bind fun
  | .bl c => cond c (a env) (b env)
  | _ => .no
/-- a truth value, or nothing -/
def blR (d : D) : R D := match d with
  | .bl c => .ok (.bl c)
  | _ => .no
def fAnd (a b : F) : F := fun env => (a env).bind fun
  | .bl c => cond c ((b env).bind blR) (.ok (.bl false))
  | _ => .no
def fOr (a b : F) : F := fun env => (a env).bind fun
  | .bl c => cond c (.ok (.bl true)) ((b env).bind blR)
  | _ => .no
def notD : D → R D
  | .bl b => .ok (.bl (!b))
  | _ => .no
def scD (d : D) : R D := match d with
  | .non => .ok .non
  | .bl b => .ok (.bl b)
  | .int i => .ok (.int i)
  | .str z => .ok (.str z)
  | _ => .no
abbrev FA := En → R (List D)
def aNil : FA := fun _ => .ok []
def aCons (a : F) (b : FA) : FA := fun env => (a env).bind fun x => (b env).bind fun y => .ok (x :: y)
def fA (g : List D → R D) (a : FA) : F := fun env => (a env).bind g

/-! ### what follows -/
def ErrIs (K : PySem.W.Frag) (c : Nat) (p : List D) (cls : Value) (od : Option Addr) (H : Hp) : Prop :=
  cls = .ref (CL K c) ∧ match p with
    | [] => od = none
    | [d] => ∃ a v, od = some a ∧ d.sc = some v ∧ H a = some (.xd [(xf c, v)])
    | _ => False
def PostE (K : PySem.W.Frag) (W : WX) (σ : L2.St) (I H : Hp) (r : R D) (Q : VK) : Prop := match r with
  | .ok d => ∀ v I' H', Grow I H I' H' → Rd K I' v d → Q v H'
  | .er c p => ∀ cls od I' H', Grow I H I' H' → ErrIs K c p cls od I' → W cls od σ H'
  | .no => False
def PostB (K : PySem.W.Frag) (W : WX) (σ : L2.St) (I H : Hp) (r : R D) (Q : VK) : Prop := match r with
  | .ok d => ∀ v I' H', Grow I H I' H' → Rd K H' v d → Q v H'
  | .er c p => ∀ cls od I' H', Grow I H I' H' → ErrIs K c p cls od I' → W cls od σ H'
  | .no => False
def PostC (K : PySem.W.Frag) (W : WX) (σ : L2.St) (I H : Hp) (r : R D) (Q : VK) : Prop := match r with
  | .ok (.lst ds) => ∀ a vs I' H', Grow I H I' H' → H' a = some (.lst vs) → RdA K I' vs ds → Q (.ref a) H'
  | .er c p => ∀ cls od I' H', Grow I H I' H' → ErrIs K c p cls od I' → W cls od σ H'
  | _ => False
def PostF (K : PySem.W.Frag) (W : WX) (σ : L2.St) (I H : Hp) (r : R D) (Q : VK) : Prop := match r with
  | .ok (.lst ds) => ∀ a vs I' H', Grow I H I' H' → H a = none → I' a = none → H' a = some (.lst vs) → RdA K I' vs ds → Q (.ref a) H'
  | .er c p => ∀ cls od I' H', Grow I H I' H' → ErrIs K c p cls od I' → W cls od σ H'
  | _ => False
def PostT (K : PySem.W.Frag) (W : WX) (σ : L2.St) (I H : Hp) (r : R D) (Q : Bool → Hp → Prop) : Prop := match r with
  | .ok (.bl b) => ∀ I' H', Grow I H I' H' → Q b H'
  | .er c p => ∀ cls od I' H', Grow I H I' H' → ErrIs K c p cls od I' → W cls od σ H'
  | _ => False
/-- arguments: true: told in the part that stays -/
inductive ArgsOk (K : PySem.W.Frag) (I H : Hp) : List Bool → List V → List D → Prop
  | nil : ArgsOk K I H [] [] []
  | st {v d fl vs ds} : Rd K I v d → ArgsOk K I H fl vs ds → ArgsOk K I H (true :: fl) (v :: vs) (d :: ds)
  | lo {v d fl vs ds} : Rd K H v d → ArgsOk K I H fl vs ds → ArgsOk K I H (false :: fl) (v :: vs) (d :: ds)
def PostA (K : PySem.W.Frag) (W : WX) (σ : L2.St) (fl : List Bool) (I H : Hp) (r : R (List D)) (Q : List V → Hp → Prop) : Prop := match r with
  | .ok ds => ∀ vs I' H', Grow I H I' H' → ArgsOk K I' H' fl vs ds → Q vs H'
  | .er c p => ∀ cls od I' H', Grow I H I' H' → ErrIs K c p cls od I' → W cls od σ H'
  | .no => False
section
variable {K : PySem.W.Frag} {W : WX} {σ : L2.St} {I H I1 H1 : Hp} {fl : List Bool}
theorem ArgsOk.grow (g : Grow I H I1 H1) : ∀ {fl : List Bool} {vs : List V} {ds : List D}, ArgsOk K I H fl vs ds → ArgsOk K I1 H1 fl vs ds
  | _, _, _, .nil => .nil
  | _, _, _, .st h q => .st (h.mono g.i) (ArgsOk.grow g q)
  | _, _, _, .lo h q => .lo (h.mono g.h) (ArgsOk.grow g q)
theorem ArgsOk.length : ∀ {fl : List Bool} {vs : List V} {ds : List D}, ArgsOk K I H fl vs ds → vs.length = fl.length
  | _, _, _, .nil => rfl
  | _, _, _, .st h q => congrArg (· + 1) (ArgsOk.length q)
  | _, _, _, .lo h q => congrArg (· + 1) (ArgsOk.length q)
theorem PostE.grow {r : R D} {Q : VK} (g : Grow I H I1 H1) (h : PostE K W σ I H r Q) : PostE K W σ I1 H1 r Q := by
  cases r with
  | ok d => exact fun v I' H' g' q => h v I' H' (g.trans g') q
  | er c p => exact fun cls od I' H' g' q => h cls od I' H' (g.trans g') q
  | no => exact h
theorem PostE.imp {r : R D} {Q Q' : VK} (h : PostE K W σ I H r Q) (k : ∀ v I' H', Grow I H I' H' → Q v H' → Q' v H') : PostE K W σ I H r Q' := by
  cases r with
  | ok d => exact fun v I' H' g' q => k v I' H' g' (h v I' H' g' q)
  | er c p => exact h
  | no => exact h
end

/-! ### readings and judgements -/
def rdE (K : PySem.W.Frag) (W : WX) (A H0 : Hp) (f : F) : TE := fun σ H Q => ∃ env I, Rel K A H0 env σ I H ∧ PostE K W σ I H (f env) Q
def rdB (K : PySem.W.Frag) (W : WX) (A H0 : Hp) (f : F) : TE := fun σ H Q => ∃ env I, Rel K A H0 env σ I H ∧ PostB K W σ I H (f env) Q
def rdC (K : PySem.W.Frag) (W : WX) (A H0 : Hp) (f : F) : TE := fun σ H Q => ∃ env I, Rel K A H0 env σ I H ∧ PostC K W σ I H (f env) Q
def rdF (K : PySem.W.Frag) (W : WX) (A H0 : Hp) (f : F) : TE := fun σ H Q => ∃ env I, Rel K A H0 env σ I H ∧ PostF K W σ I H (f env) Q
def rdT (K : PySem.W.Frag) (W : WX) (A H0 : Hp) (f : F) : TT := fun σ H Q => ∃ env I, Rel K A H0 env σ I H ∧ PostT K W σ I H (f env) Q
def rdA (K : PySem.W.Frag) (W : WX) (A H0 : Hp) (fl : List Bool) (f : FA) : TA := fun σ H Q => ∃ env I, Rel K A H0 env σ I H ∧ PostA K W σ fl I H (f env) Q
/-- strict | loose | a list's content | a new list | a test | arguments -/
def VE (X : Cx) (W : WX) (A H0 : Hp) (e : Expr) (f : F) : Prop := PE X e (rdE X.K W A H0 f)
def VB (X : Cx) (W : WX) (A H0 : Hp) (e : Expr) (f : F) : Prop := PE X e (rdB X.K W A H0 f)
def VL (X : Cx) (W : WX) (A H0 : Hp) (e : Expr) (f : F) : Prop := PE X e (rdC X.K W A H0 f)
def VF (X : Cx) (W : WX) (A H0 : Hp) (e : Expr) (f : F) : Prop := PE X e (rdF X.K W A H0 f)
def VT (X : Cx) (W : WX) (A H0 : Hp) (e : Expr) (f : F) : Prop := PT X e (rdT X.K W A H0 f)
def VW (X : Cx) (W : WX) (A H0 : Hp) (e : Expr) (f : F) : Prop := PW X e (rdT X.K W A H0 f)
def VA (X : Cx) (W : WX) (A H0 : Hp) (es : List Expr) (fl : List Bool) (f : FA) : Prop := PA X es (rdA X.K W A H0 fl f)

section
variable {X : Cx} {e : Expr} {t t' : TE}
theorem pe_imp (h : PE X e t) (k : ∀ σ H Q, t' σ H Q → t σ H Q) : PE X e t' := ⟨fun pins s σ H Q I q => h.run pins s σ H Q I (k σ H Q q)⟩
theorem pt_imp {t t' : TT} (h : PT X e t) (k : ∀ σ H Q, t' σ H Q → t σ H Q) : PT X e t' := ⟨fun pins s σ H Q I q => h.run pins s σ H Q I (k σ H Q q)⟩
theorem pw_imp {t t' : TT} (h : PW X e t) (k : ∀ σ H Q, t' σ H Q → t σ H Q) : PW X e t' := ⟨fun wh pins s σ H Q I q => h.run wh pins s σ H Q I (k σ H Q q)⟩
theorem pa_imp {es : List Expr} {t t' : TA} (h : PA X es t) (k : ∀ σ H Q, t' σ H Q → t σ H Q) : PA X es t' := ⟨fun pos pins s σ H Q I q => h.run pos pins s σ H Q I (k σ H Q q)⟩
end
section
variable {X : Cx} {W : WX} {A H0 : Hp} {a b e : Expr} {fa fb f : F} {pos : Pos}

/-! ### from one judgement to another -/
theorem vb_of_ve (h : VE X W A H0 e f) : VB X W A H0 e f := pe_imp h fun σ H Q ⟨env, I, r, q⟩ => ⟨env, I, r, by
  cases hf : f env with
  | ok d =>
    rw [hf] at q
    exact fun v I' H' g k => q v I' H' g (k.mono g.ih)
  | er c p => rw [hf] at q; exact q
  | no => rw [hf] at q; exact q.elim⟩
theorem vl_of_ve (h : VE X W A H0 e f) : VL X W A H0 e f := pe_imp h fun σ H Q ⟨env, I, r, q⟩ => ⟨env, I, r, by
  cases hf : f env with
  | ok d =>
    rw [hf] at q
    cases d with
    | lst ds =>
      intro v I' H' g k
      cases k with
      | lst h1 h2 => exact q _ _ I' H' g (g.ih _ _ h1) h2
    | _ => exact q.elim
  | er c p => rw [hf] at q; exact q
  | no => rw [hf] at q; exact q.elim⟩
/-- a list, or nothing -/
def lsD (d : D) : R D := match d with
  | .lst l => .ok (.lst l)
  | _ => .no
def fLs (f : F) : F := f1 lsD f
theorem Grow.add {I H I' H' : Hp} {a : Addr} {o : HO} (g : Grow I H I' H') (h0 : H a = none) (hi : I' a = none) (h1 : H' a = some o) : Grow I H (upd I' a o) H' :=
  ⟨g.i.trans (Ex.new hi), g.h, fun b u z => by
    by_cases y : b = a
    · subst y
      rw [upd_same] at z
      rw [← z]
      exact h1
    · rw [upd_ne y] at z
      exact g.ih b u z, fun b u z => by
    by_cases y : b = a
    · subst y
      exact .inr h0
    · rw [upd_ne y] at z
      exact g.new b u z⟩
theorem ve_of_vf (h : VF X W A H0 e f) : VE X W A H0 e (fLs f) := pe_imp h fun σ H Q ⟨env, I, r, q⟩ => ⟨env, I, r, by
  have q' : PostE X.K W σ I H ((f env).bind lsD) Q := q
  cases hf : f env with
  | ok d =>
    rw [hf] at q'
    cases d with
    | lst ds => exact fun a vs I' H' g h0 hi h1 h2 => q' (.ref a) (upd I' a (.lst vs)) H' (g.add h0 hi h1) (.lst upd_same (h2.mono (Ex.new hi)))
    | _ => exact q'.elim
  | er c p => rw [hf] at q'; exact q'
  | no => rw [hf] at q'; exact q'.elim⟩
theorem vl_of_vf (h : VF X W A H0 e f) : VL X W A H0 e f := pe_imp h fun σ H Q ⟨env, I, r, q⟩ => ⟨env, I, r, by
  cases hf : f env with
  | ok d =>
    rw [hf] at q
    cases d with
    | lst ds => exact fun a vs I' H' g h0 hi h1 h2 => q a vs I' H' g h1 h2
    | _ => exact q.elim
  | er c p => rw [hf] at q; exact q
  | no => rw [hf] at q; exact q.elim⟩
theorem vt_val (h : VB X W A H0 e f) (he : ∀ whole, isTrue e X.env whole = (do let v ← whole; standAt e.pos; holding [v] (truthy v)) := by intro _; rfl) : VT X W A H0 e f := pt_imp (pt_val h he) fun σ H Q ⟨env, I, r, q⟩ => ⟨env, I, r, by
  cases hf : f env with
  | ok d =>
    rw [hf] at q
    cases d with
    | bl b =>
      intro v I' H' g k
      cases k
      exact ⟨b, rfl, q I' H' g⟩
    | _ => exact q.elim
  | er c p => rw [hf] at q; exact q
  | no => rw [hf] at q; exact q.elim⟩

/-! ### names and constants -/
theorem ve_var (i : Nat) {x : Str} (hN : X.N[i]? = some x := by rfl) (hv : Vis X.env.scope x := by first | exact Or.inl rfl | exact Or.inr (Or.inl rfl) | exact Or.inr (Or.inr rfl)) (hd : (x == ("__debug__" : Str)) = false := by decide)
    (hcd : (x == ("__classdict__" : Str)) = false := by decide) : VE X W A H0 (.Name x pos) (fI i) := pe_imp (pe_var hN hv hd hcd) fun σ H Q ⟨env, I, r, q⟩ => by
  unfold fI at q
  cases he : env[i]? with
  | none => rw [he] at q; exact q.elim
  | some s =>
    rw [he] at q
    cases s with
    | im d =>
      obtain ⟨v, h1, h2⟩ := r.im i d he
      exact ⟨v, h1, q v I H (Grow.refl r.g.ih) h2⟩
    | _ => exact q.elim
theorem vb_var (i : Nat) {x : Str} (hN : X.N[i]? = some x := by rfl) (hv : Vis X.env.scope x := by first | exact Or.inl rfl | exact Or.inr (Or.inl rfl) | exact Or.inr (Or.inr rfl)) (hd : (x == ("__debug__" : Str)) = false := by decide)
    (hcd : (x == ("__classdict__" : Str)) = false := by decide) : VB X W A H0 (.Name x pos) (fL i) := pe_imp (pe_var hN hv hd hcd) fun σ H Q ⟨env, I, r, q⟩ => by
  unfold fL at q
  cases he : env[i]? with
  | none => rw [he] at q; exact q.elim
  | some s =>
    rw [he] at q
    cases s with
    | im d =>
      obtain ⟨v, h1, h2⟩ := r.im i d he
      exact ⟨v, h1, q v I H (Grow.refl r.g.ih) (h2.mono r.g.ih)⟩
    | bo d =>
      obtain ⟨v, h1, h2⟩ := r.bo i d he
      exact ⟨v, h1, q v I H (Grow.refl r.g.ih) (h2.mono r.g.h)⟩
    | mu l =>
      obtain ⟨a, vs, h1, h2, h3, h4, h5⟩ := r.mu i l he
      exact ⟨.ref a, h1, q (.ref a) I H (Grow.refl r.g.ih) (.lst h2 (h5.mono r.g.ih))⟩
    | ow d =>
      cases d with
      | d d =>
        obtain ⟨v, J, h1, w, h3⟩ := r.ow i _ he
        exact ⟨v, h1, q v I H (Grow.refl r.g.ih) (Rd.mono (mrg_ex r.g.ih w.h) h3)⟩
      | n k b => exact q.elim
    | no => exact q.elim
    | md => exact q.elim
    | dk => exact q.elim
def fM (i : Nat) : F := fun env => match env[i]? with
  | some (.mu l) => .ok (.lst l)
  | _ => .no
/-- a borrowed list of scalars -/
def allSc : List D → Bool
  | [] => true
  | d :: ds => d.sc.isSome && allSc ds
def fBs (i : Nat) : F := fun env => match env[i]? with
  | some (.bo (.lst l)) => if allSc l then .ok (.lst l) else .no
  | _ => .no
theorem RdA.sc_any {K : PySem.W.Frag} {I J : Hp} : ∀ {vs : List V} {ds : List D}, RdA K I vs ds → allSc ds = true → RdA K J vs ds
  | _, _, .nil, _ => .nil
  | _, d :: _, .cons h q, e => by
    obtain ⟨e1, e2⟩ := Bool.and_eq_true_iff.mp (show (d.sc.isSome && allSc _) = true from e)
    obtain ⟨w, hw⟩ := Option.isSome_iff_exists.mp e1
    exact .cons (h.sc_any hw) (RdA.sc_any q e2)
theorem ve_int {i j} : VE X W A H0 (.Constant (.int i) j pos) (fC (.int i)) := pe_imp pe_int fun σ H Q ⟨env, I, r, q⟩ => q _ I H (Grow.refl r.g.ih) .int
theorem ve_bl {i j} : VE X W A H0 (.Constant (.bool i) j pos) (fC (.bl i)) := pe_imp pe_bl fun σ H Q ⟨env, I, r, q⟩ => q _ I H (Grow.refl r.g.ih) .bl
theorem ve_non {j} : VE X W A H0 (.Constant .none j pos) (fC .non) := pe_imp pe_non fun σ H Q ⟨env, I, r, q⟩ => q _ I H (Grow.refl r.g.ih) .non
/-- a constant of the module -/
theorem ve_gi {x : Str} {i : Int} (hg : Gl X x) (hm : ∃ t, X.mg x = some (.int i t)) (hd : (x == ("__debug__" : Str)) = false := by decide) : VE X W A H0 (.Name x pos) (fC (.int i)) :=
  pe_imp (pe_glob (v := .int i) hg hm.choose_spec ⟨_, rfl⟩ hd) fun σ H Q ⟨env, I, r, q⟩ => q _ I H (Grow.refl r.g.ih) .int
/-! ### arguments -/
theorem va_nil : VA X W A H0 [] [] aNil := pa_imp pa_nil fun σ H Q ⟨env, I, r, q⟩ => q [] I H (Grow.refl r.g.ih) .nil
theorem va_st {es : List Expr} {fl : List Bool} {fs : FA} (h : VE X W A H0 e f) (hr : VA X W A H0 es fl fs) (hs : starEach (e :: es) X.env = (false, eval e X.env) :: starEach es X.env := by rfl) : VA X W A H0 (e :: es) (true :: fl) (aCons f fs) :=
  pa_imp (pa_cons h hr hs) fun σ H Q ⟨env, I, r, q⟩ => ⟨env, I, r, by
    have q' : PostA X.K W σ (true :: fl) I H ((f env).bind fun x => (fs env).bind fun y => .ok (x :: y)) Q := q
    cases hf : f env with
    | ok d =>
      rw [hf] at q'
      refine fun v I' H' g k => ⟨env, I', r.grow g, ?_⟩
      have q2 : PostA X.K W σ (true :: fl) I H ((fs env).bind fun y => .ok (d :: y)) Q := q'
      cases hs : fs env with
      | ok ds =>
        rw [hs] at q2
        exact fun vs I2 H2 g2 k2 => q2 (v :: vs) I2 H2 (g.trans g2) (.st (k.mono g2.i) k2)
      | er c p =>
        rw [hs] at q2
        exact fun cls od I2 H2 g2 k2 => q2 cls od I2 H2 (g.trans g2) k2
      | no => rw [hs] at q2; exact q2.elim
    | er c p => rw [hf] at q'; exact q'
    | no => rw [hf] at q'; exact q'.elim⟩
theorem va_lo {es : List Expr} {fl : List Bool} {fs : FA} (h : VB X W A H0 e f) (hr : VA X W A H0 es fl fs) (hs : starEach (e :: es) X.env = (false, eval e X.env) :: starEach es X.env := by rfl) : VA X W A H0 (e :: es) (false :: fl) (aCons f fs) :=
  pa_imp (pa_cons h hr hs) fun σ H Q ⟨env, I, r, q⟩ => ⟨env, I, r, by
    have q' : PostA X.K W σ (false :: fl) I H ((f env).bind fun x => (fs env).bind fun y => .ok (x :: y)) Q := q
    cases hf : f env with
    | ok d =>
      rw [hf] at q'
      refine fun v I' H' g k => ⟨env, I', r.grow g, ?_⟩
      have q2 : PostA X.K W σ (false :: fl) I H ((fs env).bind fun y => .ok (d :: y)) Q := q'
      cases hs : fs env with
      | ok ds =>
        rw [hs] at q2
        exact fun vs I2 H2 g2 k2 => q2 (v :: vs) I2 H2 (g.trans g2) (.lo (k.mono g2.h) k2)
      | er c p =>
        rw [hs] at q2
        exact fun cls od I2 H2 g2 k2 => q2 cls od I2 H2 (g.trans g2) k2
      | no => rw [hs] at q2; exact q2.elim
    | er c p => rw [hf] at q'; exact q'
    | no => rw [hf] at q'; exact q'.elim⟩

/-! ### operations of two values -/
/-- what an operation on values does: g tells a scalar -/
def SOp (K : PySem.W.Frag) (r : R2) (g : D → D → R D) : Prop := ∀ (x y : V) (dx dy d : D) (H : Hp) (Q : VK), Rd K H x dx → Rd K H y dy → g dx dy = .ok d → ∃ w, d.sc = some w ∧ (Q w H → r x y H Q)
/-- it never errs -/
def NoEr (g : D → D → R D) : Prop := ∀ x y c p, g x y ≠ .er c p
theorem op2_run {r : R2} {g : D → D → R D} (hs : SOp X.K r g) (hn : NoEr g) (ha : VB X W A H0 a fa) (hb : VB X W A H0 b fb) {σ : L2.St} {H : Hp} {Q : VK} (h : rdE X.K W A H0 (f2 g fa fb) σ H Q) : tOp r (rdB X.K W A H0 fa) (rdB X.K W A H0 fb) σ H Q := by
  obtain ⟨env, I, rl, q⟩ := h
  have q1 : PostE X.K W σ I H ((fa env).bind fun x => (fb env).bind fun y => g x y) Q := q
  refine ⟨env, I, rl, ?_⟩
  cases hf : fa env with
  | ok dx =>
    rw [hf] at q1
    refine fun x I1 H1 g1 k1 => ⟨env, I1, rl.grow g1, ?_⟩
    have q2 : PostE X.K W σ I H ((fb env).bind fun y => g dx y) Q := q1
    cases hs2 : fb env with
    | ok dy =>
      rw [hs2] at q2
      refine fun y I2 H2 g2 k2 => ?_
      have q3 : PostE X.K W σ I H (g dx dy) Q := q2
      cases hg : g dx dy with
      | ok d =>
        rw [hg] at q3
        obtain ⟨w, e, k⟩ := hs x y dx dy d H2 Q (k1.mono g2.h) k2 hg
        exact k (q3 w I2 H2 (g1.trans g2) (.of_sc e))
      | er c p => exact absurd hg (hn _ _ _ _)
      | no => rw [hg] at q3; exact q3.elim
    | er c p =>
      rw [hs2] at q2
      exact fun cls od I2 H2 g2 k2 => q2 cls od I2 H2 (g1.trans g2) k2
    | no => rw [hs2] at q2; exact q2.elim
  | er c p => rw [hf] at q1; exact q1
  | no => rw [hf] at q1; exact q1.elim
theorem ve_op {op : Operator} {r : R2} {g : D → D → R D} (ho : OpR X (binaryOp op) r) (hs : SOp X.K r g) (hn : NoEr g) (ha : VB X W A H0 a fa) (hb : VB X W A H0 b fb) : VE X W A H0 (.BinOp a op b pos) (f2 g fa fb) := pe_imp (pe_op ho ha hb) fun _ _ _ h => op2_run hs hn ha hb h
theorem ve_cmp {op : CmpOp} {r : R2} {g : D → D → R D} (ho : OpR X (compareOp op) r) (hs : SOp X.K r g) (hn : NoEr g) (ha : VB X W A H0 a fa) (hb : VB X W A H0 b fb) (hm : behindInMarks op b = false) : VE X W A H0 (.Compare a [op] [b] pos) (f2 g fa fb) :=
  pe_imp (pe_cmpR ho ha hb hm) fun _ _ _ h => op2_run hs hn ha hb h
/-- .. that may tell a new object: strict operands -/
def GOp (K : PySem.W.Frag) (r : R2) (g : D → D → R D) : Prop := ∀ (x y : V) (dx dy d : D) (I H : Hp) (Q : VK), Ex I H → Rd K I x dx → Rd K I y dy → g dx dy = .ok d → (∀ v I' H', Grow I H I' H' → Rd K I' v d → Q v H') → r x y H Q
theorem opg_run {r : R2} {g : D → D → R D} (hs : GOp X.K r g) (hn : NoEr g) {σ : L2.St} {H : Hp} {Q : VK} (h : rdE X.K W A H0 (f2 g fa fb) σ H Q) : tOp r (rdE X.K W A H0 fa) (rdE X.K W A H0 fb) σ H Q := by
  obtain ⟨env, I, rl, q⟩ := h
  have q1 : PostE X.K W σ I H ((fa env).bind fun x => (fb env).bind fun y => g x y) Q := q
  refine ⟨env, I, rl, ?_⟩
  cases hf : fa env with
  | ok dx =>
    rw [hf] at q1
    refine fun x I1 H1 g1 k1 => ⟨env, I1, rl.grow g1, ?_⟩
    have q2 : PostE X.K W σ I H ((fb env).bind fun y => g dx y) Q := q1
    cases hs2 : fb env with
    | ok dy =>
      rw [hs2] at q2
      refine fun y I2 H2 g2 k2 => ?_
      have q3 : PostE X.K W σ I H (g dx dy) Q := q2
      cases hg : g dx dy with
      | ok d =>
        rw [hg] at q3
        exact hs x y dx dy d I2 H2 Q g2.ih (k1.mono g2.i) k2 hg fun v I3 H3 g3 k3 => q3 v I3 H3 ((g1.trans g2).trans g3) k3
      | er c p => exact absurd hg (hn _ _ _ _)
      | no => rw [hg] at q3; exact q3.elim
    | er c p =>
      rw [hs2] at q2
      exact fun cls od I2 H2 g2 k2 => q2 cls od I2 H2 (g1.trans g2) k2
    | no => rw [hs2] at q2; exact q2.elim
  | er c p => rw [hf] at q1; exact q1
  | no => rw [hf] at q1; exact q1.elim
theorem ve_opg {op : Operator} {r : R2} {g : D → D → R D} (ho : OpR X (binaryOp op) r) (hs : GOp X.K r g) (hn : NoEr g) (ha : VE X W A H0 a fa) (hb : VE X W A H0 b fb) : VE X W A H0 (.BinOp a op b pos) (f2 g fa fb) := pe_imp (pe_op ho ha hb) fun _ _ _ h => opg_run hs hn h
theorem OpR.or {f : Value → Value → Sem Value} {r r' : R2} (h : OpR X f r) (h' : OpR X f r') : OpR X f (fun x y H Q => r x y H Q ∨ r' x y H Q) := by
  intro pins s σ H x y v u Q I rx ry q
  exact q.elim (h pins s σ H x y v u Q I rx ry) (h' pins s σ H x y v u Q I rx ry)
end
end BW
/-! BCore3: the operations. -/
namespace BW
open PySem PySem.Spec PyProof.Rows L2
open Evl (Ex Ex.refl Ex.trans Ex.new ex_rd ex_l ex_t)

/-! ### what they tell -/
def addD : D → D → R D
  | .int i, .int j => .ok (.int (i + j))
  | .str x, .str y => if x.length + y.length ≤ sizeLine then .ok (.str (x ++ y)) else .no
  | .lst x, .lst y => if x.length + y.length ≤ sizeLine then .ok (.lst (x ++ y)) else .no
  | .tup x, .tup y => if x.length + y.length ≤ sizeLine then .ok (.tup (x ++ y)) else .no
  | _, _ => .no
def subD : D → D → R D
  | .int i, .int j => .ok (.int (i - j))
  | _, _ => .no
def smallI (i : Int) : Bool := decide (-(2 ^ 64) < i ∧ i < 2 ^ 64)
def mulD : D → D → R D
  | .int i, .int j => if smallI i || smallI j || decide (i.natAbs.log2 + j.natAbs.log2 < 1000000) then .ok (.int (i * j)) else .no
  | .lst x, .int k => if -(2 ^ 63) ≤ k ∧ k < 2 ^ 63 ∧ x.length * k.toNat ≤ sizeLine then .ok (.lst (List.replicate k.toNat x).flatten) else .no
  | _, _ => .no
def fdivD : D → D → R D
  | .int i, .int j => if 0 < j ∧ j.natAbs.log2 < 9000 then .ok (.int (i / j)) else .no
  | _, _ => .no
def modD : D → D → R D
  | .int i, .int j => if 0 < j then .ok (.int (i % j)) else .no
  | _, _ => .no
def powD : D → D → R D
  | .int i, .int j => if 0 ≤ j ∧ j ≤ 1000000 ∧ i.natAbs < 2 ^ 64 then .ok (.int (i ^ j.toNat)) else .no
  | _, _ => .no
def shlD : D → D → R D
  | .int i, .int j => if 0 ≤ j ∧ j ≤ 1000000 ∧ i.natAbs < 2 ^ 64 then .ok (.int (i * 2 ^ j.toNat)) else .no
  | _, _ => .no
def shrD : D → D → R D
  | .int i, .int j => if 0 ≤ j then .ok (.int (i / 2 ^ j.toNat)) else .no
  | _, _ => .no
def negD : D → R D
  | .int i => .ok (.int (-i))
  | _ => .no
def ltD : D → D → R D
  | .int i, .int j => .ok (.bl (decide (i < j)))
  | _, _ => .no
def leD : D → D → R D
  | .int i, .int j => .ok (.bl (decide (i ≤ j)))
  | _, _ => .no
def gtD : D → D → R D
  | .int i, .int j => .ok (.bl (decide (j < i)))
  | _, _ => .no
def geD : D → D → R D
  | .int i, .int j => .ok (.bl (decide (j ≤ i)))
  | _, _ => .no
mutual
def py : D → Option PyData
  | .non => some .none
  | .bl b => some (.bool b)
  | .int i => some (.int i)
  | .str z => some (.str z)
  | .lst l => (pyA l).map .list
  | .tup l => (pyA l).map .tuple
  | .scr l => some (.list (l.map .int))
  | .obj _ _ => none
  | .exc _ _ => none
  | .dct _ _ => none
  | .dtt _ _ => none
  | .adr _ => none
def pyA : List D → Option (List PyData)
  | [] => some []
  | d :: ds => (py d).bind fun x => (pyA ds).map fun xs => x :: xs
end
def eqG (a b : D) : R D := match py a, py b with
  | some p, some q => if SeqAt.shaped p && SeqAt.shaped q then .ok (.bl (PyData.eqv p q)) else .no
  | _, _ => .no
def eqD : D → D → R D
  | .int i, .int j => .ok (.bl (decide (i = j)))
  | a, b => eqG a b
def neD (a b : D) : R D := (eqD a b).bind notD
/-- == of scalars -/
def eqS (a b : D) : Bool := match a.sc, b.sc with
  | some v, some w => eqV v w
  | _, _ => false
def inD : D → D → R D
  | x, .lst l => if x.sc.isSome && allSc l then .ok (.bl (l.any fun y => eqS y x)) else .no
  | x, .tup l => if x.sc.isSome && allSc l then .ok (.bl (l.any fun y => eqS y x)) else .no
  | x, .scr l => if x.sc.isSome then .ok (.bl (l.any fun y => eqS (.int y) x)) else .no
  | .str x, .str z => .ok (.bl (!(Builtin.Str.occurrences z x 0 z.length 1).isEmpty))
  | _, _ => .no
def ninD (a b : D) : R D := (inD a b).bind notD
def isD : D → D → R D
  | x, .non => match x.sc with
    | some v => .ok (.bl (decide (v = .non)))
    | none => .ok (.bl false)
  | .bl a, .bl b => .ok (.bl (decide (a = b)))
  | _, _ => .no
def isnD (a b : D) : R D := (isD a b).bind notD
def ixD : D → D → R D
  | .lst l, .int i => match atI l i with
    | some d => .ok d
    | none => .no
  | .tup l, .int i => match atI l i with
    | some d => .ok d
    | none => .no
  | .scr l, .int i => match atI l i with
    | some d => .ok (.int d)
    | none => .no
  | .str z, .int i => if z.length ≤ sizeLine then (match atI z.cps.toList i with
    | some c => .ok (.str ⟨#[c]⟩)
    | none => .no) else .no
  | _, _ => .no
end BW
/-! BCore4: the operations do what they tell. -/
namespace BW
open PySem PySem.Spec PyProof.Rows L2
open Evl (Ex Ex.refl Ex.trans Ex.new ex_rd ex_l ex_t)

section
variable {K : PySem.W.Frag} {I H : Hp}
theorem Rd.int_inv {v : V} {i : Int} (h : Rd K I v (.int i)) : v = .int i := by cases h; rfl
theorem Rd.bl_inv {v : V} {i : Bool} (h : Rd K I v (.bl i)) : v = .bl i := by cases h; rfl
theorem Rd.str_inv {v : V} {i : Str} (h : Rd K I v (.str i)) : v = .str i := by cases h; rfl
theorem Rd.lst_inv {v : V} {l : List D} (h : Rd K I v (.lst l)) : ∃ a vs, v = .ref a ∧ I a = some (.lst vs) ∧ RdA K I vs l := by cases h with | lst h1 h2 => exact ⟨_, _, rfl, h1, h2⟩
theorem Rd.tup_inv {v : V} {l : List D} (h : Rd K I v (.tup l)) : ∃ a vs, v = .ref a ∧ TupN I a vs ∧ RdA K I vs l := by cases h with | tup h1 h2 => exact ⟨_, _, rfl, h1, h2⟩
theorem Rd.scr_inv {v : V} {l : List Int} (h : Rd K I v (.scr l)) : ∃ a, v = .ref a ∧ SqL K I a (l.map V.int) := by cases h with | scr h1 => exact ⟨_, rfl, h1⟩
theorem Rd.obj_inv {v : V} {c : Nat} {l : List D} (h : Rd K I v (.obj c l)) : ∃ a dx vs, v = .ref a ∧ I a = some (.ins (CL K c) dx ((fns c).zip vs)) ∧ vs.length = (fns c).length ∧ RdA K I vs l := by cases h with | obj h1 h2 h3 => exact ⟨_, _, _, rfl, h1, h2, h3⟩
theorem ok_inj {α : Type} {a b : α} (h : R.ok a = .ok b) : a = b := R.ok.inj h

/-! ### whole numbers -/
theorem so_I {C : Int → Int → Prop} {g : Int → Int → V} {gd : D → D → R D} (h : ∀ dx dy d, gd dx dy = .ok d → ∃ i j, dx = .int i ∧ dy = .int j ∧ C i j ∧ d.sc = some (g i j)) : SOp K (rI C g) gd := by
  intro x y dx dy d H Q hx hy e
  obtain ⟨i, j, rfl, rfl, c, e2⟩ := h _ _ _ e
  exact ⟨_, e2, fun q => ⟨i, j, hx.int_inv, hy.int_inv, c, q⟩⟩
theorem so_I0 {g : Int → Int → V} {gd : D → D → R D} (h : ∀ dx dy d, gd dx dy = .ok d → ∃ i j, dx = .int i ∧ dy = .int j ∧ d.sc = some (g i j)) : SOp K (rI0 g) gd := by
  intro x y dx dy d H Q hx hy e
  obtain ⟨i, j, rfl, rfl, e2⟩ := h _ _ _ e
  exact ⟨_, e2, fun q => ⟨i, j, hx.int_inv, hy.int_inv, q⟩⟩
theorem so_sub : SOp K (rI0 fun i j => .int (i - j)) subD := so_I0 fun dx dy d e => by
  cases dx <;> cases dy <;> first | exact ⟨_, _, rfl, rfl, by rw [← ok_inj e]; rfl⟩ | cases e
theorem so_lt : SOp K (rI0 fun i j => .bl (decide (i < j))) ltD := so_I0 fun dx dy d e => by
  cases dx <;> cases dy <;> first | exact ⟨_, _, rfl, rfl, by rw [← ok_inj e]; rfl⟩ | cases e
theorem so_gt : SOp K (rI0 fun i j => .bl (decide (j < i))) gtD := so_I0 fun dx dy d e => by
  cases dx <;> cases dy <;> first | exact ⟨_, _, rfl, rfl, by rw [← ok_inj e]; rfl⟩ | cases e
theorem so_ge : SOp K (rI0 fun i j => .bl (decide (j ≤ i))) geD := so_I0 fun dx dy d e => by
  cases dx <;> cases dy <;> first | exact ⟨_, _, rfl, rfl, by rw [← ok_inj e]; rfl⟩ | cases e
theorem ite_ok {α : Type} {c : Prop} [Decidable c] {a b : α} (e : (if c then R.ok a else R.no) = .ok b) : c ∧ a = b := by
  by_cases h : c
  · rw [if_pos h] at e
    exact ⟨h, ok_inj e⟩
  · rw [if_neg h] at e
    cases e
theorem so_fdiv : SOp K (rI CDivW fun i j => .int (i / j)) fdivD := so_I fun dx dy d e => by
  cases dx <;> cases dy <;> first | exact ⟨_, _, rfl, rfl, (ite_ok e).1, by rw [← (ite_ok e).2]; rfl⟩ | cases e
theorem so_mod : SOp K (rI (fun _ j => 0 < j) fun i j => .int (i % j)) modD := so_I fun dx dy d e => by
  cases dx <;> cases dy <;> first | exact ⟨_, _, rfl, rfl, (ite_ok e).1, by rw [← (ite_ok e).2]; rfl⟩ | cases e
theorem so_shl : SOp K (rI CPow fun i j => .int (i * 2 ^ j.toNat)) shlD := so_I fun dx dy d e => by
  cases dx <;> cases dy <;> first | exact ⟨_, _, rfl, rfl, (ite_ok e).1, by rw [← (ite_ok e).2]; rfl⟩ | cases e
theorem ite_er {α : Type} {c : Prop} [Decidable c] {a : α} {n : Nat} {p : List D} : (if c then R.ok a else R.no) ≠ .er n p := by
  by_cases h : c
  · rw [if_pos h]; exact fun z => nomatch z
  · rw [if_neg h]; exact fun z => nomatch z
theorem ne_sub : NoEr subD := fun x y c p => by cases x <;> cases y <;> exact fun z => nomatch z
theorem ne_lt : NoEr ltD := fun x y c p => by cases x <;> cases y <;> exact fun z => nomatch z
theorem ne_gt : NoEr gtD := fun x y c p => by cases x <;> cases y <;> exact fun z => nomatch z
theorem ne_ge : NoEr geD := fun x y c p => by cases x <;> cases y <;> exact fun z => nomatch z
theorem ne_fdiv : NoEr fdivD := fun x y c p => by cases x <;> cases y <;> first | exact ite_er | exact fun z => nomatch z
theorem ne_mod : NoEr modD := fun x y c p => by cases x <;> cases y <;> first | exact ite_er | exact fun z => nomatch z
theorem ne_shl : NoEr shlD := fun x y c p => by cases x <;> cases y <;> first | exact ite_er | exact fun z => nomatch z
theorem ne_add : NoEr addD := fun x y c p => by cases x <;> cases y <;> first | exact ite_er | exact fun z => nomatch z
theorem ne_mul : NoEr mulD := fun x y c p => by cases x <;> cases y <;> first | exact ite_er | exact fun z => nomatch z

/-! ### +, * -/
theorem go_add : GOp K (fun x y H Q => (rI0 (fun i j => V.int (i + j)) x y H Q ∨ (∃ i j, x = .str i ∧ y = .str j ∧ i.length + j.length ≤ sizeLine ∧ Q (.str (i ++ j)) H)) ∨ (rCat x y H Q ∨ rCatN K x y H Q)) addD := by
  intro x y dx dy d I H Q ih hx hy e q
  cases dx <;> cases dy <;> try (cases e; done)
  · rw [hx.int_inv, hy.int_inv]
    rw [← ok_inj e] at q
    exact .inl (.inl ⟨_, _, rfl, rfl, q _ I H (Grow.refl ih) .int⟩)
  · rw [hx.str_inv, hy.str_inv]
    obtain ⟨c, e2⟩ := ite_ok e
    rw [← e2] at q
    exact .inl (.inr ⟨_, _, rfl, rfl, c, q _ I H (Grow.refl ih) .str⟩)
  · obtain ⟨a, vs, rfl, h1, h2⟩ := hx.lst_inv
    obtain ⟨b, ws, rfl, h3, h4⟩ := hy.lst_inv
    obtain ⟨c, e2⟩ := ite_ok e
    rw [← e2] at q
    refine .inr (.inl ⟨a, b, vs, ws, rfl, rfl, ih _ _ h1, ih _ _ h3, by rw [h2.length, h4.length]; exact c, fun p hp => ?_⟩)
    exact q (.ref p) _ _ (Grow.push ih hp) (.lst upd_same ((h2.append h4).mono (Ex.new (Evl.fresh_back ih hp))))
  · obtain ⟨a, vs, rfl, h1, h2⟩ := hx.tup_inv
    obtain ⟨b, ws, rfl, h3, h4⟩ := hy.tup_inv
    obtain ⟨c, e2⟩ := ite_ok e
    rw [← e2] at q
    refine .inr (.inr ⟨a, b, vs, ws, rfl, rfl, (h1.mono ih).sq, (h3.mono ih).sq, by rw [h2.length, h4.length]; exact c, fun z => ?_, fun _ z => ?_, fun _ _ p ob hp hd => ?_⟩)
    · subst z
      cases h2
      exact q _ I H (Grow.refl ih) hy
    · subst z
      cases h4
      rw [List.append_nil] at q
      exact q _ I H (Grow.refl ih) hx
    · exact q (.ref p) _ _ (Grow.push ih hp) (.tup (.new hd) ((h2.append h4).mono (Ex.new (Evl.fresh_back ih hp))))
theorem RdA.rep {vs : List V} {ds : List D} (h : RdA K I vs ds) : ∀ n, RdA K I (List.replicate n vs).flatten (List.replicate n ds).flatten
  | 0 => .nil
  | n + 1 => by
    rw [List.replicate_succ, List.replicate_succ, List.flatten_cons, List.flatten_cons]
    exact h.append (RdA.rep h n)
end
section
variable {X : Cx} {W : WX} {A H0 : Hp} {a b e : Expr} {fa fb f : F} {pos : Pos} {K : PySem.W.Frag}
theorem ve_add (ha : VE X W A H0 a fa) (hb : VE X W A H0 b fb) : VE X W A H0 (.BinOp a .Add b pos) (f2 addD fa fb) := ve_opg ((op_add.or op_add_str).or (op_cat.or op_catN)) go_add ne_add ha hb
theorem ve_sub (ha : VB X W A H0 a fa) (hb : VB X W A H0 b fb) : VE X W A H0 (.BinOp a .Sub b pos) (f2 subD fa fb) := ve_op op_sub so_sub ne_sub ha hb
theorem ve_fdiv (ha : VB X W A H0 a fa) (hb : VB X W A H0 b fb) : VE X W A H0 (.BinOp a .FloorDiv b pos) (f2 fdivD fa fb) := ve_op op_fdivW so_fdiv ne_fdiv ha hb
theorem ve_mod (ha : VB X W A H0 a fa) (hb : VB X W A H0 b fb) : VE X W A H0 (.BinOp a .Mod b pos) (f2 modD fa fb) := ve_op op_mod so_mod ne_mod ha hb
theorem ve_shl (ha : VB X W A H0 a fa) (hb : VB X W A H0 b fb) : VE X W A H0 (.BinOp a .LShift b pos) (f2 shlD fa fb) := ve_op op_shl so_shl ne_shl ha hb
theorem go_mul : GOp K (fun x y H Q => (rI CMul (fun i j => V.int (i * j)) x y H Q ∨ rI CMulW (fun i j => V.int (i * j)) x y H Q) ∨ rRep x y H Q) mulD := by
  intro x y dx dy d I H Q ih hx hy e q
  cases dx <;> cases dy <;> try (cases e; done)
  · rename_i i j
    rw [hx.int_inv, hy.int_inv]
    obtain ⟨c, e2⟩ := ite_ok e
    rw [← e2] at q
    have q' := q _ I H (Grow.refl ih) .int
    rcases Bool.or_eq_true_iff.mp c with c | c
    · rcases Bool.or_eq_true_iff.mp c with c | c
      · exact .inl (.inl ⟨i, j, rfl, rfl, .inl (of_decide_eq_true c), q'⟩)
      · exact .inl (.inl ⟨i, j, rfl, rfl, .inr (of_decide_eq_true c), q'⟩)
    · exact .inl (.inr ⟨i, j, rfl, rfl, of_decide_eq_true (p := i.natAbs.log2 + j.natAbs.log2 < 1000000) c, q'⟩)
  · rename_i l k
    obtain ⟨a, vs, rfl, h1, h2⟩ := hx.lst_inv
    rw [hy.int_inv]
    obtain ⟨c, e2⟩ := ite_ok e
    rw [← e2] at q
    refine .inr ⟨a, k, vs, rfl, rfl, ih _ _ h1, c.1, c.2.1, by rw [h2.length]; exact c.2.2, fun p hp => ?_⟩
    exact q (.ref p) _ _ (Grow.push ih hp) (.lst upd_same ((h2.rep _).mono (Ex.new (Evl.fresh_back ih hp))))
theorem ve_mul (ha : VE X W A H0 a fa) (hb : VE X W A H0 b fb) : VE X W A H0 (.BinOp a .Mult b pos) (f2 mulD fa fb) := ve_opg ((op_mul.or op_mulW).or op_rep) go_mul ne_mul ha hb
end
end BW
/-! BCore5: comparisons, logic, places, displays. -/
namespace BW
open PySem PySem.Spec PyProof.Rows L2
open Evl (Ex Ex.refl Ex.trans Ex.new ex_rd ex_l ex_t)
section
variable {K : PySem.W.Frag} {I H : Hp}
theorem dp_ints : ∀ ns : List Int, DpAll K H (ns.map V.int) (ns.map PyData.int)
  | [] => .nil
  | _ :: r => .cons (.int _) (dp_ints r)
mutual
theorem dp_of : ∀ {v : V} {d : D}, Rd K H v d → ∀ {p : PyData}, py d = some p → Dp K H v p
  | _, _, .non, p, e => by
    have e' : some PyData.none = some p := e
    cases e'
    exact .non
  | _, _, .bl, p, e => by
    have e' : some (PyData.bool _) = some p := e
    cases e'
    exact .bl _
  | _, _, .int, p, e => by
    have e' : some (PyData.int _) = some p := e
    cases e'
    exact .int _
  | _, _, .str, p, e => by
    have e' : some (PyData.str _) = some p := e
    cases e'
    exact .str _
  | _, _, .lst (ds := ds) h q, p, e => by
    have e' : (pyA ds).map PyData.list = some p := e
    obtain ⟨ps, e1, e2⟩ := Option.map_eq_some_iff.mp e'
    rw [← e2]
    exact .lst (.inl (.inl h)) (dp_all q e1)
  | _, _, .tup (ds := ds) h q, p, e => by
    have e' : (pyA ds).map PyData.tuple = some p := e
    obtain ⟨ps, e1, e2⟩ := Option.map_eq_some_iff.mp e'
    rw [← e2]
    exact .tup h.sq (dp_all q e1)
  | _, _, .scr (ns := ns) h, p, e => by
    have e' : some (PyData.list (ns.map PyData.int)) = some p := e
    cases e'
    exact .lst h (dp_ints ns)
  | _, _, .obj _ _ _, p, e => by
    have e' : none = some p := e
    cases e'
  | _, _, .exc0 _, p, e => by
    have e' : none = some p := e
    cases e'
  | _, _, .exc1 _ _ _, p, e => by
    have e' : none = some p := e
    cases e'
  | _, _, .dct _ _ _, p, e => by
    have e' : none = some p := e
    cases e'
  | _, _, .dtt _ _ _, p, e => by
    have e' : none = some p := e
    cases e'
  | _, _, .adr, p, e => by
    have e' : none = some p := e
    cases e'
theorem dp_all : ∀ {vs : List V} {ds : List D}, RdA K H vs ds → ∀ {ps : List PyData}, pyA ds = some ps → DpAll K H vs ps
  | _, _, .nil, ps, e => by
    have e' : some ([] : List PyData) = some ps := e
    cases e'
    exact .nil
  | _, _, .cons (d := d) (ds := ds) h q, ps, e => by
    have e' : ((py d).bind fun x => (pyA ds).map fun xs => x :: xs) = some ps := e
    obtain ⟨x, e1, e2⟩ := Option.bind_eq_some_iff.mp e'
    obtain ⟨xs, e3, e4⟩ := Option.map_eq_some_iff.mp e2
    rw [← e4]
    exact .cons (dp_of h e1) (dp_all q e3)
end
theorem eqG_inv {a b d : D} (e : eqG a b = .ok d) : ∃ p q, py a = some p ∧ py b = some q ∧ SeqAt.shaped p = true ∧ SeqAt.shaped q = true ∧ d = .bl (PyData.eqv p q) := by
  unfold eqG at e
  cases h1 : py a with
  | none => rw [h1] at e; cases e
  | some p =>
    cases h2 : py b with
    | none => rw [h1, h2] at e; cases e
    | some q =>
      rw [h1, h2] at e
      have e' : (if (SeqAt.shaped p && SeqAt.shaped q) = true then R.ok (D.bl (PyData.eqv p q)) else R.no) = R.ok d := e
      obtain ⟨c, e2⟩ := ite_ok e'
      obtain ⟨c1, c2⟩ := Bool.and_eq_true_iff.mp c
      exact ⟨p, q, rfl, rfl, c1, c2, e2.symm⟩
theorem eqD_inv {a b d : D} (e : eqD a b = .ok d) : ∃ p q, py a = some p ∧ py b = some q ∧ SeqAt.shaped p = true ∧ SeqAt.shaped q = true ∧ d = .bl (PyData.eqv p q) := by
  cases a <;> cases b <;> exact eqG_inv e
theorem so_eq : SOp K (rEqD K) eqD := by
  intro x y dx dy d H Q hx hy e
  obtain ⟨p, q, e1, e2, s1, s2, e3⟩ := eqD_inv e
  subst e3
  exact ⟨_, rfl, fun k => ⟨p, q, dp_of hx e1, dp_of hy e2, s1, s2, k⟩⟩
theorem not_inv {r : R D} {d : D} (e : r.bind notD = .ok d) : ∃ b, r = .ok (.bl b) ∧ d = .bl (!b) := by
  cases r with
  | ok x =>
    cases x with
    | bl b =>
      have e' : R.ok (D.bl (!b)) = R.ok d := e
      exact ⟨b, rfl, (ok_inj e').symm⟩
    | _ => cases e
  | er c p => cases e
  | no => cases e
theorem so_ne : SOp K (rNeD K) neD := by
  intro x y dx dy d H Q hx hy e
  obtain ⟨b, e0, e4⟩ := not_inv e
  obtain ⟨p, q, e1, e2, s1, s2, e3⟩ := eqD_inv e0
  cases e3
  subst e4
  exact ⟨_, rfl, fun k => ⟨p, q, dp_of hx e1, dp_of hy e2, s1, s2, k⟩⟩
theorem ner_eqG (x y : D) (c : Nat) (p : List D) : eqG x y ≠ .er c p := by
  unfold eqG
  cases py x with
  | none => exact fun z => nomatch z
  | some p =>
    cases py y with
    | none => exact fun z => nomatch z
    | some q => exact ite_er
theorem ner_eq : NoEr eqD := fun x y c p => by
  unfold eqD
  split
  · exact fun z => nomatch z
  · exact ner_eqG _ _ c p
theorem ner_not {r : R D} (h : ∀ c p, r ≠ .er c p) (c : Nat) (p : List D) : r.bind notD ≠ .er c p := by
  cases r with
  | ok x => cases x <;> exact fun z => nomatch z
  | er c p => exact absurd rfl (h c p)
  | no => exact fun z => nomatch z
theorem ner_ne : NoEr neD := fun x y => ner_not (ner_eq x y)

/-! ### in -/
theorem allSc_all : ∀ {vs : List V} {ds : List D}, RdA K H vs ds → allSc ds = true → vs.all flatV = true
  | _, _, .nil, _ => rfl
  | _, d :: _, .cons (v := v) h q, e => by
    obtain ⟨e1, e2⟩ := Bool.and_eq_true_iff.mp (show (d.sc.isSome && allSc _) = true from e)
    have f : flatV v = true := by cases h <;> first | rfl | cases e1
    rw [List.all_cons, f, allSc_all q e2]
    rfl
theorem sc_flat {v : V} {d : D} (h : Rd K H v d) (e : d.sc.isSome = true) : flatV v = true ∧ d.sc = some v := by
  cases h <;> first | exact ⟨rfl, rfl⟩ | cases e
theorem inV_of {v : V} {d : D} (h : d.sc = some v) : ∀ {vs : List V} {ds : List D}, RdA K H vs ds → allSc ds = true → inV v vs = ds.any fun y => eqS y d
  | _, _, .nil, _ => rfl
  | _, y :: _, .cons (v := w) k q, e => by
    obtain ⟨e1, e2⟩ := Bool.and_eq_true_iff.mp (show (y.sc.isSome && allSc _) = true from e)
    have f := (sc_flat k e1).2
    have ih := inV_of h q e2
    unfold inV at ih ⊢
    rw [List.any_cons, List.any_cons, ih]
    congr 1
    unfold eqS
    rw [f, h]
theorem inD_ner : NoEr inD := fun x y c p => by cases x <;> cases y <;> first | exact ite_er | exact fun z => nomatch z
theorem ninD_ner : NoEr ninD := fun x y => ner_not (inD_ner x y)
theorem sq_in {x : V} {dx : D} {a : Addr} {vs : List V} {l : List D} (sx : dx.sc.isSome = true) (hx : Rd K H x dx) (h2 : RdA K H vs l) (c : allSc l = true) : flatV x = true ∧ vs.all flatV = true ∧ inV x vs = l.any fun y => eqS y dx :=
  ⟨(sc_flat hx sx).1, allSc_all h2 c, inV_of (sc_flat hx sx).2 h2 c⟩
theorem allSc_ints : ∀ ns : List Int, allSc (ns.map D.int) = true
  | [] => rfl
  | _ :: r => allSc_ints r
theorem any_ints (f : D → Bool) (ns : List Int) : (ns.map D.int).any f = ns.any fun y => f (.int y) := by
  rw [List.any_map]
  rfl
theorem inD_lst (x : D) (l : List D) : inD x (.lst l) = if x.sc.isSome && allSc l then .ok (.bl (l.any fun y => eqS y x)) else .no := by cases x <;> rfl
theorem inD_tup (x : D) (l : List D) : inD x (.tup l) = if x.sc.isSome && allSc l then .ok (.bl (l.any fun y => eqS y x)) else .no := by cases x <;> rfl
theorem inD_scr (x : D) (l : List Int) : inD x (.scr l) = if x.sc.isSome then .ok (.bl (l.any fun y => eqS (.int y) x)) else .no := by cases x <;> rfl
/-- what «in» finds, as the rules want it -/
theorem in_run {x y : V} {dx dy d : D} {H : Hp} (hx : Rd K H x dx) (hy : Rd K H y dy) (e : inD dx dy = .ok d) : ∃ b, d = .bl b ∧ ((∃ p xs, y = .ref p ∧ (SqL K H p xs ∨ SqT K H p xs) ∧ flatV x = true ∧ xs.all flatV = true ∧ inV x xs = b) ∨
    ∃ i j, x = .str i ∧ y = .str j ∧ b = (!(Builtin.Str.occurrences j i 0 j.length 1).isEmpty)) := by
  cases hy with
  | lst h1 h2 =>
    rw [inD_lst] at e
    have e' := ite_ok e
    obtain ⟨c1, c2⟩ := Bool.and_eq_true_iff.mp e'.1
    obtain ⟨k1, k2, k3⟩ := sq_in (a := 0) c1 hx h2 c2
    exact ⟨_, e'.2.symm, .inl ⟨_, _, rfl, .inl (.inl (.inl h1)), k1, k2, k3⟩⟩
  | tup h1 h2 =>
    rw [inD_tup] at e
    have e' := ite_ok e
    obtain ⟨c1, c2⟩ := Bool.and_eq_true_iff.mp e'.1
    obtain ⟨k1, k2, k3⟩ := sq_in (a := 0) c1 hx h2 c2
    exact ⟨_, e'.2.symm, .inl ⟨_, _, rfl, .inr h1.sq, k1, k2, k3⟩⟩
  | scr h1 =>
    rw [inD_scr] at e
    have e' := ite_ok e
    obtain ⟨k1, k2, k3⟩ := sq_in (a := 0) e'.1 hx (RdA.ints (K := K) (I := H)) (allSc_ints _)
    rw [any_ints] at k3
    exact ⟨_, e'.2.symm, .inl ⟨_, _, rfl, .inl h1, k1, k2, k3⟩⟩
  | str =>
    cases dx <;> try (cases e; done)
    have e' := ok_inj e
    exact ⟨_, e'.symm, .inr ⟨_, _, hx.str_inv, rfl, rfl⟩⟩
  | _ => cases dx <;> cases e
theorem so_in : SOp K (fun x y H Q => rIn K false x y H Q ∨ ∃ i j, x = .str i ∧ y = .str j ∧ Q (.bl (!(Builtin.Str.occurrences j i 0 j.length 1).isEmpty)) H) inD := by
  intro x y dx dy d H Q hx hy e
  obtain ⟨b, rfl, h⟩ := in_run hx hy e
  refine ⟨_, rfl, fun q => ?_⟩
  rcases h with ⟨p, xs, rfl, h1, h2, h3, h4⟩ | ⟨i, j, rfl, rfl, h4⟩
  · refine .inl ⟨p, xs, rfl, h1, h2, h3, ?_⟩
    show Q (.bl (inV x xs)) H
    rw [h4]
    exact q
  · refine .inr ⟨i, j, rfl, rfl, ?_⟩
    rw [← h4]
    exact q
theorem so_nin : SOp K (fun x y H Q => rIn K true x y H Q ∨ ∃ i j, x = .str i ∧ y = .str j ∧ Q (.bl (!(!(Builtin.Str.occurrences j i 0 j.length 1).isEmpty))) H) ninD := by
  intro x y dx dy d H Q hx hy e
  obtain ⟨b0, e0, e4⟩ := not_inv e
  obtain ⟨b, e5, h⟩ := in_run hx hy e0
  cases e5
  subst e4
  refine ⟨_, rfl, fun q => ?_⟩
  rcases h with ⟨p, xs, rfl, h1, h2, h3, h4⟩ | ⟨i, j, rfl, rfl, h4⟩
  · refine .inl ⟨p, xs, rfl, h1, h2, h3, ?_⟩
    show Q (.bl (!inV x xs)) H
    rw [h4]
    exact q
  · refine .inr ⟨i, j, rfl, rfl, ?_⟩
    rw [← h4]
    exact q

/-! ### is -/
end
section
variable {X : Cx} {W : WX} {A H0 : Hp} {a b c e : Expr} {fa fb fc f : F} {pos : Pos}
theorem ve_eq (hu : X.A.units + 64 < cLine) (ha : VB X W A H0 a fa) (hb : VB X W A H0 b fb) : VE X W A H0 (.Compare a [.Eq] [b] pos) (f2 eqD fa fb) := ve_cmp (op_eqD hu) so_eq ner_eq ha hb (nomark _)
/-! ### logic -/
theorem vt_and_run {σ : L2.St} {H : Hp} {Q : Bool → Hp → Prop} (h : rdT X.K W A H0 (fAnd fa fb) σ H Q) : tAnd (rdT X.K W A H0 fa) (rdT X.K W A H0 fb) σ H Q := by
  obtain ⟨env, I, r, q⟩ := h
  refine ⟨env, I, r, ?_⟩
  unfold fAnd at q
  cases hf : fa env with
  | ok d =>
    rw [hf] at q
    cases d with
    | bl x =>
      cases x with
      | true =>
        refine fun I1 H1 g1 => iteT ⟨env, I1, r.grow g1, ?_⟩
        have q2 : PostT X.K W σ I H ((fb env).bind blR) Q := q
        cases hb : fb env with
        | ok d =>
          rw [hb] at q2
          cases d with
          | bl y => exact fun I2 H2 g2 => q2 I2 H2 (g1.trans g2)
          | _ => exact q2.elim
        | er c p =>
          rw [hb] at q2
          exact fun cls od I2 H2 g2 => q2 cls od I2 H2 (g1.trans g2)
        | no => rw [hb] at q2; exact q2.elim
      | false => exact fun I1 H1 g1 => iteF (q I1 H1 g1)
    | _ => exact q.elim
  | er c p => rw [hf] at q; exact q
  | no => rw [hf] at q; exact q.elim
theorem vt_or_run {σ : L2.St} {H : Hp} {Q : Bool → Hp → Prop} (h : rdT X.K W A H0 (fOr fa fb) σ H Q) : tOr (rdT X.K W A H0 fa) (rdT X.K W A H0 fb) σ H Q := by
  obtain ⟨env, I, r, q⟩ := h
  refine ⟨env, I, r, ?_⟩
  unfold fOr at q
  cases hf : fa env with
  | ok d =>
    rw [hf] at q
    cases d with
    | bl x =>
      cases x with
      | false =>
        refine fun I1 H1 g1 => iteF ⟨env, I1, r.grow g1, ?_⟩
        have q2 : PostT X.K W σ I H ((fb env).bind blR) Q := q
        cases hb : fb env with
        | ok d =>
          rw [hb] at q2
          cases d with
          | bl y => exact fun I2 H2 g2 => q2 I2 H2 (g1.trans g2)
          | _ => exact q2.elim
        | er c p =>
          rw [hb] at q2
          exact fun cls od I2 H2 g2 => q2 cls od I2 H2 (g1.trans g2)
        | no => rw [hb] at q2; exact q2.elim
      | true => exact fun I1 H1 g1 => iteT (q I1 H1 g1)
    | _ => exact q.elim
  | er c p => rw [hf] at q; exact q
  | no => rw [hf] at q; exact q.elim
theorem vw_and1 (h : VT X W A H0 a fa) : VW X W A H0 (.BoolOp .And [a] pos) fa := pw_and1 h
theorem vw_or1 (h : VT X W A H0 a fa) : VW X W A H0 (.BoolOp .Or [a] pos) fa := pw_or1 h
theorem vw_and {rest : List Expr} (h : VT X W A H0 a fa) (k : VW X W A H0 (.BoolOp .And (b :: rest) pos) fb) : VW X W A H0 (.BoolOp .And (a :: b :: rest) pos) (fAnd fa fb) := pw_imp (pw_and h k) fun _ _ _ z => vt_and_run z
theorem vw_or {rest : List Expr} (h : VT X W A H0 a fa) (k : VW X W A H0 (.BoolOp .Or (b :: rest) pos) fb) : VW X W A H0 (.BoolOp .Or (a :: b :: rest) pos) (fOr fa fb) := pw_imp (pw_or h k) fun _ _ _ z => vt_or_run z
theorem vt_w (h : VW X W A H0 e f) : VT X W A H0 e f := PW.pt h
def fNot (f : F) : F := f1 notD f
theorem vt_not (h : VT X W A H0 a fa) : VT X W A H0 (.UnaryOp .Not a pos) (fNot fa) := pt_imp (pt_not h) fun σ H Q ⟨env, I, r, q⟩ => ⟨env, I, r, by
  have q' : PostT X.K W σ I H ((fa env).bind notD) Q := q
  cases hf : fa env with
  | ok d =>
    rw [hf] at q'
    cases d <;> first | exact q' | exact q'.elim
  | er c p => rw [hf] at q'; exact q'
  | no => rw [hf] at q'; exact q'.elim⟩
theorem ve_not (h : VB X W A H0 a fa) : VE X W A H0 (.UnaryOp .Not a pos) (fNot fa) := pe_imp (pe_not h) fun σ H Q ⟨env, I, r, q⟩ => ⟨env, I, r, by
  have q' : PostE X.K W σ I H ((fa env).bind notD) Q := q
  cases hf : fa env with
  | ok d =>
    rw [hf] at q'
    cases d with
    | bl x =>
      intro v I' H' g k
      rw [k.bl_inv]
      exact ⟨x, rfl, q' _ I' H' g .bl⟩
    | _ => exact q'.elim
  | er c p => rw [hf] at q'; exact q'
  | no => rw [hf] at q'; exact q'.elim⟩
theorem ve_one {op : BoolOp} (h : VE X W A H0 a fa) : VE X W A H0 (.BoolOp op [a] pos) fa := pe_one h
theorem ve_and {rest : List Expr} (h : VB X W A H0 a fa) (k : VB X W A H0 (.BoolOp .And (b :: rest) pos) fb) : VE X W A H0 (.BoolOp .And (a :: b :: rest) pos) (fAnd fa fb) := pe_imp (pe_and h k) fun σ H Q ⟨env, I, r, q⟩ => ⟨env, I, r, by
  unfold fAnd at q
  cases hf : fa env with
  | ok d =>
    rw [hf] at q
    cases d with
    | bl x =>
      intro v I1 H1 g1 k1
      refine ⟨x, k1.bl_inv, ?_⟩
      cases x with
      | true =>
        refine iteT ⟨env, I1, r.grow g1, ?_⟩
        have q2 : PostE X.K W σ I H ((fb env).bind blR) Q := q
        cases hb : fb env with
        | ok d =>
          rw [hb] at q2
          cases d with
          | bl y => exact fun v I2 H2 g2 k2 => q2 v I2 H2 (g1.trans g2) (k2.sc_any rfl)
          | _ => exact q2.elim
        | er c p =>
          rw [hb] at q2
          exact fun cls od I2 H2 g2 => q2 cls od I2 H2 (g1.trans g2)
        | no => rw [hb] at q2; exact q2.elim
      | false => exact iteF (q _ I1 H1 g1 .bl)
    | _ => exact q.elim
  | er c p => rw [hf] at q; exact q
  | no => rw [hf] at q; exact q.elim⟩
theorem ve_if (hc : VT X W A H0 c fc) (ha : VE X W A H0 a fa) (hb : VE X W A H0 b fb) : VE X W A H0 (.IfExp c a b pos) (fIf fc fa fb) := pe_imp (pe_ifExp hc ha hb) fun σ H Q ⟨env, I, r, q⟩ => ⟨env, I, r, by
  unfold fIf at q
  cases hf : fc env with
  | ok d =>
    rw [hf] at q
    cases d with
    | bl x =>
      intro I1 H1 g1
      cases x with
      | true => exact iteT ⟨env, I1, r.grow g1, PostE.grow g1 q⟩
      | false => exact iteF ⟨env, I1, r.grow g1, PostE.grow g1 q⟩
    | _ => exact q.elim
  | er c p => rw [hf] at q; exact q
  | no => rw [hf] at q; exact q.elim⟩
end
end BW
/-! BCore6: places, fields, displays, calls. -/
namespace BW
open PySem PySem.Spec PyProof.Rows L2
open Evl (Ex Ex.refl Ex.trans Ex.new ex_rd ex_l ex_t)
section
variable {K : PySem.W.Frag} {I H : Hp}
theorem atI_rd {vs : List V} {ds : List D} (h : RdA K I vs ds) {i : Int} {d : D} (e : atI ds i = some d) : ∃ v, atI vs i = some v ∧ Rd K I v d := by
  unfold atI at e ⊢
  rw [h.length]
  cases q : ixN ds.length i with
  | none => rw [q] at e; cases e
  | some j =>
    rw [q] at e
    exact h.get (i := j) e
theorem atI_map {α β : Type} (f : α → β) (l : List α) (i : Int) : atI (l.map f) i = (atI l i).map f := by
  unfold atI
  rw [List.length_map]
  cases ixN l.length i with
  | none => rfl
  | some j =>
    show (l.map f)[j]? = (l[j]?).map f
    rw [List.getElem?_map]
theorem ner_ix : NoEr ixD := fun x y c p => by
  unfold ixD
  repeat' split
  all_goals exact fun z => nomatch z
theorem ix_str_inv {z : Str} {i : Int} {d : D} (e : ixD (.str z) (.int i) = .ok d) : z.length ≤ sizeLine ∧ ∃ c, atI z.cps.toList i = some c ∧ d = .str ⟨#[c]⟩ := by
  have e' : (if z.length ≤ sizeLine then (match atI z.cps.toList i with | some c => R.ok (D.str ⟨#[c]⟩) | none => .no) else R.no) = .ok d := e
  by_cases h : z.length ≤ sizeLine
  · rw [if_pos h] at e'
    cases q : atI z.cps.toList i with
    | none => rw [q] at e'; cases e'
    | some c =>
      rw [q] at e'
      exact ⟨h, c, rfl, (ok_inj e').symm⟩
  · rw [if_neg h] at e'
    cases e'
theorem go_ix : GOp K (rIx K) ixD := by
  intro x y dx dy d I H Q ih hx hy e q
  cases dx <;> cases dy <;> try (cases e; done)
  · rename_i z i
    obtain ⟨h, c, h1, rfl⟩ := ix_str_inv e
    rw [hx.str_inv, hy.int_inv]
    exact .inr (.inr ⟨z, i, c, rfl, rfl, h, h1, q _ I H (Grow.refl ih) .str⟩)
  · rename_i l i
    obtain ⟨a, vs, rfl, h1, h2⟩ := hx.lst_inv
    rw [hy.int_inv]
    have e' : (match atI l i with | some d => R.ok d | none => .no) = .ok d := e
    cases c : atI l i with
    | none => rw [c] at e'; cases e'
    | some d2 =>
      rw [c] at e'
      cases e'
      obtain ⟨v, k1, k2⟩ := atI_rd h2 c
      exact .inl ⟨a, vs, i, v, rfl, rfl, .inl (.inl (ih _ _ h1)), k1, q v I H (Grow.refl ih) k2⟩
  · rename_i l i
    obtain ⟨a, vs, rfl, h1, h2⟩ := hx.tup_inv
    rw [hy.int_inv]
    have e' : (match atI l i with | some d => R.ok d | none => .no) = .ok d := e
    cases c : atI l i with
    | none => rw [c] at e'; cases e'
    | some d2 =>
      rw [c] at e'
      cases e'
      obtain ⟨v, k1, k2⟩ := atI_rd h2 c
      exact .inr (.inl ⟨a, vs, i, v, rfl, rfl, (h1.mono ih).sq, k1, q v I H (Grow.refl ih) k2⟩)
  · rename_i l i
    obtain ⟨a, rfl, h1⟩ := hx.scr_inv
    rw [hy.int_inv]
    have e' : (match atI l i with | some d => R.ok (D.int d) | none => .no) = .ok d := e
    cases c : atI l i with
    | none => rw [c] at e'; cases e'
    | some d2 =>
      rw [c] at e'
      cases e'
      exact .inl ⟨a, _, i, .int d2, rfl, rfl, ex_l ih h1, by rw [atI_map, c]; rfl, q _ I H (Grow.refl ih) .int⟩
end
section
variable {X : Cx} {W : WX} {A H0 : Hp} {a b c e : Expr} {fa fb fc f : F} {pos : Pos}
theorem ve_ix (ha : VE X W A H0 a fa) (hb : VE X W A H0 b fb) (hs : PlainIx b := by exact fun _ _ => rfl) : VE X W A H0 (.Subscript a b pos) (f2 ixD fa fb) := pe_imp (pe_ix ix_seq ha hb hs) fun _ _ _ h => opg_run go_ix ner_ix h
/-- an item of a list whose content is told -/
theorem ve_ixC (ha : VL X W A H0 a fa) (hb : VE X W A H0 b fb) (hs : PlainIx b := by exact fun _ _ => rfl) : VE X W A H0 (.Subscript a b pos) (f2 ixD (fLs fa) fb) := pe_imp (pe_ix ix_list ha hb hs) fun σ H Q ⟨env, I, rl, q⟩ => ⟨env, I, rl, by
  have q1 : PostE X.K W σ I H (((fa env).bind lsD).bind fun x => (fb env).bind fun y => ixD x y) Q := q
  cases hf : fa env with
  | ok dx =>
    rw [hf] at q1
    cases dx with
    | lst l =>
      refine fun p vs I1 H1 g1 k1 k2 => ⟨env, I1, rl.grow g1, ?_⟩
      have q2 : PostE X.K W σ I H ((fb env).bind fun y => ixD (.lst l) y) Q := q1
      cases hs2 : fb env with
      | ok dy =>
        rw [hs2] at q2
        refine fun y I2 H2 g2 k3 => ?_
        have q3 : PostE X.K W σ I H (ixD (.lst l) dy) Q := q2
        cases dy with
        | int i =>
          rw [k3.int_inv]
          have q4 : PostE X.K W σ I H (match atI l i with | some d => R.ok d | none => .no) Q := q3
          cases c : atI l i with
          | none => rw [c] at q4; exact q4.elim
          | some d =>
            rw [c] at q4
            obtain ⟨v, k4, k5⟩ := atI_rd k2 c
            exact ⟨p, vs, i, v, rfl, rfl, .inl (.inl (g2.h _ _ k1)), k4, q4 v I2 H2 (g1.trans g2) (k5.mono g2.i)⟩
        | _ => exact q3.elim
      | er c p =>
        rw [hs2] at q2
        exact fun cls od I2 H2 g2 k2 => q2 cls od I2 H2 (g1.trans g2) k2
      | no => rw [hs2] at q2; exact q2.elim
    | _ => exact q1.elim
  | er c p => rw [hf] at q1; exact q1
  | no => rw [hf] at q1; exact q1.elim⟩

/-! ### fields -/
theorem zip_lookup {K : PySem.W.Frag} {I : Hp} {f : Str} : ∀ {ns : List Str} {vs : List V} {ds : List D}, RdA K I vs ds → ∀ {d : D}, (ns.zip ds).lookup f = some d → ∃ v, (ns.zip vs).lookup f = some v ∧ Rd K I v d
  | [], _, _, _, d, e => by simp at e
  | _ :: _, _, _, .nil, d, e => by simp at e
  | n :: ns, _, _, .cons h q, d, e => by
    rw [List.zip_cons_cons, List.lookup_cons] at e
    rw [List.zip_cons_cons, List.lookup_cons]
    cases z : f == n with
    | true =>
      rw [z] at e
      cases e
      exact ⟨_, rfl, h⟩
    | false =>
      rw [z] at e
      exact zip_lookup q e
def atD (c : Nat) (f : Str) : D → R D
  | .obj k l => if k = c then (match ((fns c).zip l).lookup f with
    | some d => .ok d
    | none => .no) else .no
  | _ => .no
theorem ve_at (c : Nat) {n : Str} (cl : Cls X.K (CL X.K c)) (na : NoAttr X.K (CL X.K c) n) (h : VE X W A H0 a fa) (hb : attributeBase a n X.env (eval a X.env) = eval a X.env := by rfl) : VE X W A H0 (.Attribute a n pos) (f1 (atD c n) fa) :=
  pe_imp (pe_fld h hb) fun σ H Q ⟨env, I, rl, q⟩ => ⟨env, I, rl, by
    have q1 : PostE X.K W σ I H ((fa env).bind (atD c n)) Q := q
    cases hf : fa env with
    | ok dx =>
      rw [hf] at q1
      cases dx with
      | obj k l =>
        intro v I' H' g kk
        obtain ⟨p, dx, vs, rfl, h1, h2, h3⟩ := kk.obj_inv
        have q2 : PostE X.K W σ I H (if k = c then (match ((fns c).zip l).lookup n with | some d => R.ok d | none => .no) else .no) Q := q1
        by_cases hk : k = c
        · subst hk
          rw [if_pos rfl] at q2
          cases hl : ((fns k).zip l).lookup n with
          | none => rw [hl] at q2; exact q2.elim
          | some d =>
            rw [hl] at q2
            obtain ⟨v, k1, k2⟩ := zip_lookup h3 hl
            exact ⟨p, _, dx, _, v, rfl, g.ih _ _ h1, cl, na, k1, q2 v I' H' g k2⟩
        · rw [if_neg hk] at q2
          exact q2.elim
      | _ => exact q1.elim
    | er c p => rw [hf] at q1; exact q1
    | no => rw [hf] at q1; exact q1.elim⟩

/-! ### displays -/
theorem ArgsOk.strict {K : PySem.W.Frag} {I H : Hp} : ∀ {fl : List Bool} {vs : List V} {ds : List D}, ArgsOk K I H fl vs ds → fl.all id = true → RdA K I vs ds
  | _, _, _, .nil, _ => .nil
  | _, _, _, .st h q, e => .cons h (ArgsOk.strict q (by simpa using e))
  | _, _, _, .lo h q, e => by simp at e
def tupD (l : List D) : R D := .ok (.tup l)
def lstD (l : List D) : R D := .ok (.lst l)
theorem ve_tup {es : List Expr} {fl : List Bool} {fs : FA} {x1} (h : VA X W A H0 es fl fs) (hf : fl.all id = true := by rfl) (hl : fl.length ≤ 1000 := by decide) : VE X W A H0 (.Tuple es x1 pos) (fA tupD fs) := pe_imp (pe_tupN h) fun σ H Q ⟨env, I, rl, q⟩ => ⟨env, I, rl, by
  have q1 : PostE X.K W σ I H ((fs env).bind tupD) Q := q
  cases hs : fs env with
  | ok ds =>
    rw [hs] at q1
    refine fun vs I1 H1 g1 k1 => ⟨Nat.le_trans (by rw [k1.length]; exact hl) (by decide), fun p ob hp hd => ?_⟩
    exact q1 (.ref p) _ _ (g1.trans (Grow.push g1.ih hp)) (.tup (.new hd) ((k1.strict hf).mono (Ex.new (Evl.fresh_back g1.ih hp))))
  | er c p => rw [hs] at q1; exact q1
  | no => rw [hs] at q1; exact q1.elim⟩
theorem vf_lst {es : List Expr} {fl : List Bool} {fs : FA} (h : VA X W A H0 es fl fs) (hf : fl.all id = true := by rfl) (hl : fl.length ≤ 1000 := by decide) : VF X W A H0 (.List es pos) (fA lstD fs) := pe_imp (pe_lst h) fun σ H Q ⟨env, I, rl, q⟩ => ⟨env, I, rl, by
  have q1 : PostF X.K W σ I H ((fs env).bind lstD) Q := q
  cases hs : fs env with
  | ok ds =>
    rw [hs] at q1
    refine fun vs I1 H1 g1 k1 => ⟨Nat.le_trans (by rw [k1.length]; exact hl) (by decide), fun p hp => ?_⟩
    have h0 : I1 p = none := Evl.fresh_back g1.ih hp
    exact q1 p vs I1 _ (g1.trans (Grow.hid g1.ih (Ex.new hp))) (Evl.fresh_back g1.h hp) h0 upd_same (k1.strict hf)
  | er c p => rw [hs] at q1; exact q1
  | no => rw [hs] at q1; exact q1.elim⟩

/-! ### own defs -/
def spF (K : PySem.W.Frag) (fl : List Bool) (m : List D → R D) : Sp := fun vs H Q E => ∃ ds I, Ex I H ∧ ArgsOk K I H fl vs ds ∧ PostE K (fun cls od _ H' => E cls od H') [] I H (m ds) Q
/-- .. that hands back a new list -/
def spN (K : PySem.W.Frag) (fl : List Bool) (m : List D → R D) : Sp := fun vs H Q E => ∃ ds I, Ex I H ∧ ArgsOk K I H fl vs ds ∧ PostF K (fun cls od _ H' => E cls od H') [] I H (m ds) Q
theorem ve_call {x : Str} {k : Nat} {g : Addr} {fd : FuncData} {ps : List Str} {fl : List Bool} {m : List D → R D} {es : List Expr} {fs : FA} {p : Pos} (Fn : FnOk X.prog X.w X.K X.mg X.base (L2.CX X.prog X.w) k g fd ps (spF X.K fl m)) (hr : Room k X.A) (tk : Takes X W) (hm : X.mg x = some (.ref g)) (hk : PySem.W.keepIn X.K (.ref g) = true) (hb : Binds X.K fd ps [])
    (ha : VA X W A H0 (e :: es) fl fs) (hg : Gl X x := by rfl) (hdb : (x == ("__debug__" : Str)) = false := by decide) (he : starEach (e :: es) X.env = (false, eval e X.env) :: starEach es X.env := by rfl) (hpl : (backTo pos (starEach es X.env)).any (·.1) = false := by rfl) :
    VE X W A H0 (.Call (.Name x p) (e :: es) [] pos) (fA m fs) := pe_imp (pe_callS Fn hr hg hm hk hb (fun σ => passAt tk σ) ha hdb he hpl) fun σ H Q ⟨env, I, rl, q⟩ => ⟨env, I, rl, by
  have q1 : PostE X.K W σ I H ((fs env).bind m) Q := q
  cases hs : fs env with
  | ok ds =>
    rw [hs] at q1
    refine fun vs I1 H1 g1 k1 => ⟨ds, I1, g1.ih, k1, ?_⟩
    have q2 : PostE X.K W σ I H (m ds) Q := q1
    cases hmd : m ds with
    | ok d => rw [hmd] at q2; exact fun v I2 H2 g2 k2 => q2 v I2 H2 (g1.trans g2) k2
    | er c p => rw [hmd] at q2; exact fun cls od I2 H2 g2 k2 => q2 cls od I2 H2 (g1.trans g2) k2
    | no => rw [hmd] at q2; exact q2.elim
  | er c p => rw [hs] at q1; exact q1
  | no => rw [hs] at q1; exact q1.elim⟩
theorem vf_call {x : Str} {k : Nat} {g : Addr} {fd : FuncData} {ps : List Str} {fl : List Bool} {m : List D → R D} {es : List Expr} {fs : FA} {p : Pos} (Fn : FnOk X.prog X.w X.K X.mg X.base (L2.CX X.prog X.w) k g fd ps (spN X.K fl m)) (hr : Room k X.A) (tk : Takes X W) (hm : X.mg x = some (.ref g)) (hk : PySem.W.keepIn X.K (.ref g) = true) (hb : Binds X.K fd ps [])
    (ha : VA X W A H0 (e :: es) fl fs) (hg : Gl X x := by rfl) (hdb : (x == ("__debug__" : Str)) = false := by decide) (he : starEach (e :: es) X.env = (false, eval e X.env) :: starEach es X.env := by rfl) (hpl : (backTo pos (starEach es X.env)).any (·.1) = false := by rfl) :
    VF X W A H0 (.Call (.Name x p) (e :: es) [] pos) (fA m fs) := pe_imp (pe_callS Fn hr hg hm hk hb (fun σ => passAt tk σ) ha hdb he hpl) fun σ H Q ⟨env, I, rl, q⟩ => ⟨env, I, rl, by
  have q1 : PostF X.K W σ I H ((fs env).bind m) Q := q
  cases hs : fs env with
  | ok ds =>
    rw [hs] at q1
    refine fun vs I1 H1 g1 k1 => ⟨ds, I1, g1.ih, k1, ?_⟩
    have q2 : PostF X.K W σ I H (m ds) Q := q1
    cases hmd : m ds with
    | ok d =>
      rw [hmd] at q2
      cases d with
      | lst l => exact fun a vs I2 H2 g2 h0 h1 h2 h3 => q2 a vs I2 H2 (g1.trans g2) (Evl.fresh_back g1.h h0) h1 h2 h3
      | _ => exact q2.elim
    | er c p => rw [hmd] at q2; exact fun cls od I2 H2 g2 k2 => q2 cls od I2 H2 (g1.trans g2) k2
    | no => rw [hmd] at q2; exact q2.elim
  | er c p => rw [hs] at q1; exact q1
  | no => rw [hs] at q1; exact q1.elim⟩
/-! ### built-in functions -/
/-- what a built-in does with its arguments -/
def GC (K : PySem.W.Frag) (r : List V → Hp → VK → Prop) (fl : List Bool) (g : List D → R D) : Prop := ∀ (vs : List V) (ds : List D) (d : D) (I H : Hp) (Q : VK), Ex I H → ArgsOk K I H fl vs ds → g ds = .ok d → (∀ v I' H', Grow I H I' H' → Rd K I' v d → Q v H') → r vs H Q
def GCF (K : PySem.W.Frag) (r : List V → Hp → VK → Prop) (fl : List Bool) (g : List D → R D) : Prop := ∀ (vs : List V) (ds : List D) (d : D) (I H : Hp) (Q : VK), Ex I H → ArgsOk K I H fl vs ds → g ds = .ok d → ∃ l, d = .lst l ∧ ((∀ a us I' H', Grow I H I' H' → H a = none → I' a = none → H' a = some (.lst us) → RdA K I' us l → Q (.ref a) H') → r vs H Q)
def NoErA (g : List D → R D) : Prop := ∀ ds c p, g ds ≠ .er c p
theorem gc_run {r : List V → Hp → VK → Prop} {fl : List Bool} {g : List D → R D} {fs : FA} (hg : GC X.K r fl g) (hn : NoErA g) {σ : L2.St} {H : Hp} {Q : VK} (h : rdE X.K W A H0 (fA g fs) σ H Q) : tCB r (rdA X.K W A H0 fl fs) σ H Q := by
  obtain ⟨env, I, rl, q⟩ := h
  refine ⟨env, I, rl, ?_⟩
  have q1 : PostE X.K W σ I H ((fs env).bind g) Q := q
  cases hs : fs env with
  | ok ds =>
    rw [hs] at q1
    intro vs I1 H1 g1 k1
    have q2 : PostE X.K W σ I H (g ds) Q := q1
    cases hmd : g ds with
    | ok d => rw [hmd] at q2; exact hg vs ds d I1 H1 Q g1.ih k1 hmd fun v I2 H2 g2 k2 => q2 v I2 H2 (g1.trans g2) k2
    | er c p => exact absurd hmd (hn ds c p)
    | no => rw [hmd] at q2; exact q2.elim
  | er c p => rw [hs] at q1; exact q1
  | no => rw [hs] at q1; exact q1.elim
theorem gcf_run {r : List V → Hp → VK → Prop} {fl : List Bool} {g : List D → R D} {fs : FA} (hg : GCF X.K r fl g) (hn : NoErA g) {σ : L2.St} {H : Hp} {Q : VK} (h : rdF X.K W A H0 (fA g fs) σ H Q) : tCB r (rdA X.K W A H0 fl fs) σ H Q := by
  obtain ⟨env, I, rl, q⟩ := h
  refine ⟨env, I, rl, ?_⟩
  have q1 : PostF X.K W σ I H ((fs env).bind g) Q := q
  cases hs : fs env with
  | ok ds =>
    rw [hs] at q1
    intro vs I1 H1 g1 k1
    have q2 : PostF X.K W σ I H (g ds) Q := q1
    cases hmd : g ds with
    | ok d =>
      rw [hmd] at q2
      obtain ⟨l, rfl, z⟩ := hg vs ds d I1 H1 Q g1.ih k1 hmd
      exact z fun a us I2 H2 g2 h0 h1 h2 h3 => q2 a us I2 H2 (g1.trans g2) (Evl.fresh_back g1.h h0) h1 h2 h3
    | er c p => exact absurd hmd (hn ds c p)
    | no => rw [hmd] at q2; exact q2.elim
  | er c p => rw [hs] at q1; exact q1
  | no => rw [hs] at q1; exact q1.elim
section
variable {x : Str} {id T : String} {es : List Expr} {p : Pos} {r : List V → Hp → VK → Prop} {fl : List Bool} {g : List D → R D} {fs : FA}
theorem ve_blt (hc : CallR X (.builtin id) r) (hG : GC X.K r fl g) (hn : NoErA g) (hm : X.mg x = none) (hv : bootBuiltins x = some (.builtin id)) (ha : VA X W A H0 (e :: es) fl fs) (hg : Gl X x := by rfl) (hnm : x ≠ "__name__" := by decide) (hdb : (x == ("__debug__" : Str)) = false := by decide)
    (he : starEach (e :: es) X.env = (false, eval e X.env) :: starEach es X.env := by rfl) (hpl : (backTo pos (starEach es X.env)).any (·.1) = false := by rfl) : VE X W A H0 (.Call (.Name x p) (e :: es) [] pos) (fA g fs) := pe_imp (pe_callB hc hg hm hv ha hnm hdb he hpl) fun _ _ _ h => gc_run hG hn h
theorem ve_bty (hc : CallR X (.type T) r) (hG : GC X.K r fl g) (hn : NoErA g) (hm : X.mg x = none) (hv : bootBuiltins x = some (.type T)) (ha : VA X W A H0 (e :: es) fl fs) (hg : Gl X x := by rfl) (hnm : x ≠ "__name__" := by decide) (hdb : (x == ("__debug__" : Str)) = false := by decide)
    (he : starEach (e :: es) X.env = (false, eval e X.env) :: starEach es X.env := by rfl) (hpl : (backTo pos (starEach es X.env)).any (·.1) = false := by rfl) : VE X W A H0 (.Call (.Name x p) (e :: es) [] pos) (fA g fs) := pe_imp (pe_callTy hc hg hm hv ha hnm hdb he hpl) fun _ _ _ h => gc_run hG hn h
theorem vf_bty (hc : CallR X (.type T) r) (hG : GCF X.K r fl g) (hn : NoErA g) (hm : X.mg x = none) (hv : bootBuiltins x = some (.type T)) (ha : VA X W A H0 (e :: es) fl fs) (hg : Gl X x := by rfl) (hnm : x ≠ "__name__" := by decide) (hdb : (x == ("__debug__" : Str)) = false := by decide)
    (he : starEach (e :: es) X.env = (false, eval e X.env) :: starEach es X.env := by rfl) (hpl : (backTo pos (starEach es X.env)).any (·.1) = false := by rfl) : VF X W A H0 (.Call (.Name x p) (e :: es) [] pos) (fA g fs) := pe_imp (pe_callTy hc hg hm hv ha hnm hdb he hpl) fun _ _ _ h => gcf_run hG hn h
end
end
end BW
/-! BCore7: built-in functions. -/
namespace BW
open PySem PySem.Spec PyProof.Rows L2
open Evl (Ex Ex.refl Ex.trans Ex.new ex_rd ex_l ex_t)

def lenD : List D → R D
  | [.lst l] => .ok (.int (l.length : Nat))
  | [.tup l] => .ok (.int (l.length : Nat))
  | [.scr l] => .ok (.int (l.length : Nat))
  | [.str z] => if z.length ≤ sizeLine then .ok (.int (z.length : Nat)) else .no
  | _ => .no
def absD : List D → R D
  | [.int i] => .ok (.int (if i < 0 then -i else i))
  | _ => .no
def intD : List D → R D
  | [.int i] => .ok (.int i)
  | [.bl b] => .ok (.int (if b then 1 else 0))
  | _ => .no
def boolD : List D → R D
  | [.int i] => .ok (.bl (i != 0))
  | [.bl b] => .ok (.bl b)
  | _ => .no
def intsD : List D → Option (List Int)
  | [] => some []
  | .int i :: r => (intsD r).map fun ns => i :: ns
  | _ => none
def listInts : D → Option (List Int)
  | .lst l => intsD l
  | .scr ns => some ns
  | _ => none
def sumD : List D → R D
  | [x] => match listInts x with
    | some ns => .ok (.int ns.sum)
    | none => .no
  | _ => .no
def maxL : List Int → Int
  | [] => 0
  | n :: ns => ns.foldl max n
def minL : List Int → Int
  | [] => 0
  | n :: ns => ns.foldl min n
def maxD : List D → R D
  | [.int i, .int j] => .ok (.int (if j > i then j else i))
  | [x] => match listInts x with
    | some (n :: ns) => .ok (.int (maxL (n :: ns)))
    | _ => .no
  | _ => .no
def minD : List D → R D
  | [.int i, .int j] => .ok (.int (if j < i then j else i))
  | [x] => match listInts x with
    | some (n :: ns) => .ok (.int (minL (n :: ns)))
    | _ => .no
  | _ => .no
def listD : List D → R D
  | [.lst l] => .ok (.lst l)
  | [.tup l] => .ok (.lst l)
  | [.scr l] => .ok (.lst (l.map D.int))
  | _ => .no
def tupleD : List D → R D
  | [.lst l] => .ok (.tup l)
  | [.tup l] => .ok (.tup l)
  | _ => .no

section
variable {K : PySem.W.Frag} {I H : Hp}
theorem ints_rd : ∀ {vs : List V} {l : List D} {ns : List Int}, RdA K I vs l → intsD l = some ns → vs = ns.map V.int ∧ l = ns.map D.int
  | _, _, ns, .nil, e => by
    have e' : some ([] : List Int) = some ns := e
    cases e'
    exact ⟨rfl, rfl⟩
  | _, _, ns, .cons (d := d) (ds := r) h q, e => by
    cases d <;> try (cases e; done)
    rename_i i
    have e' : ((intsD r).map fun ns => i :: ns) = some ns := e
    obtain ⟨ms, e1, e2⟩ := Option.map_eq_some_iff.mp e'
    obtain ⟨k1, k2⟩ := ints_rd q e1
    rw [← e2, k1, k2, h.int_inv]
    exact ⟨rfl, rfl⟩
theorem ints_map : ∀ ns : List Int, intsD (ns.map D.int) = some ns
  | [] => rfl
  | n :: ns => by
    show ((intsD (ns.map D.int)).map fun ns => n :: ns) = _
    rw [ints_map ns]
    rfl
theorem listInts_rd {v : V} {d : D} {ns : List Int} (h : Rd K H v d) (e : listInts d = some ns) : ∃ a, v = .ref a ∧ SqL K H a (ns.map V.int) := by
  cases h <;> try (cases e; done)
  · rename_i h1 h2
    have k := (ints_rd h2 e).1
    rw [k] at h1
    exact ⟨_, rfl, .inl (.inl h1)⟩
  · rename_i h1
    cases e
    exact ⟨_, rfl, h1⟩
theorem args1 {vs : List V} {x : D} (h : ArgsOk K I H [false] vs [x]) : ∃ v, vs = [v] ∧ Rd K H v x := by
  cases h with
  | lo h q => cases q; exact ⟨_, rfl, h⟩
theorem args1s {vs : List V} {x : D} (h : ArgsOk K I H [true] vs [x]) : ∃ v, vs = [v] ∧ Rd K I v x := by
  cases h with
  | st h q => cases q; exact ⟨_, rfl, h⟩
theorem args2 {vs : List V} {x y : D} (h : ArgsOk K I H [false, false] vs [x, y]) : ∃ v w, vs = [v, w] ∧ Rd K H v x ∧ Rd K H w y := by
  cases h with
  | lo h q => cases q with
    | lo h2 q2 => cases q2; exact ⟨_, _, rfl, h, h2⟩
theorem argsLen {fl : List Bool} {vs : List V} {ds : List D} (h : ArgsOk K I H fl vs ds) : ds.length = fl.length := by
  induction h with
  | nil => rfl
  | st _ _ ih => exact congrArg (· + 1) ih
  | lo _ _ ih => exact congrArg (· + 1) ih
theorem one_of {ds : List D} (h : ds.length = 1) : ∃ x, ds = [x] := by
  match ds, h with
  | [x], _ => exact ⟨x, rfl⟩
theorem two_of {ds : List D} (h : ds.length = 2) : ∃ x y, ds = [x, y] := by
  match ds, h with
  | [x, y], _ => exact ⟨x, y, rfl⟩
/-- one loose argument, a scalar answer -/
theorem gc1 {r : List V → Hp → VK → Prop} {g : List D → R D} (h : ∀ (v : V) (x d : D) (H : Hp) (Q : VK), Rd K H v x → g [x] = .ok d → ∃ w, d.sc = some w ∧ (Q w H → r [v] H Q)) : GC K r [false] g := by
  intro vs ds d I H Q ih ha e q
  obtain ⟨x, rfl⟩ := one_of (argsLen ha)
  obtain ⟨v, rfl, hv⟩ := args1 ha
  obtain ⟨w, e1, k⟩ := h v x d H Q hv e
  exact k (q w I H (Grow.refl ih) (.of_sc e1))
theorem gc_len : GC K (fun xs H Q => ∃ x n, xs = [x] ∧ LenV K x H n ∧ Q (.int n) H) [false] lenD := gc1 fun v x d H Q hv e => by
  cases x <;> try (cases e; done)
  · rename_i z
    rw [hv.str_inv]
    obtain ⟨c, e2⟩ := ite_ok e
    rw [← e2]
    exact ⟨_, rfl, fun q => ⟨_, _, rfl, ⟨c, rfl⟩, q⟩⟩
  · obtain ⟨a, vs, rfl, h1, h2⟩ := hv.lst_inv
    rw [← ok_inj e]
    exact ⟨_, rfl, fun q => ⟨_, _, rfl, .inl ⟨vs, .inl (.inl h1), h2.length.symm⟩, q⟩⟩
  · obtain ⟨a, vs, rfl, h1, h2⟩ := hv.tup_inv
    rw [← ok_inj e]
    exact ⟨_, rfl, fun q => ⟨_, _, rfl, .inr ⟨vs, h1.sq, h2.length.symm⟩, q⟩⟩
  · rename_i l
    obtain ⟨a, rfl, h1⟩ := hv.scr_inv
    rw [← ok_inj e]
    exact ⟨_, rfl, fun q => ⟨_, _, rfl, .inl ⟨_, h1, (List.length_map (f := V.int) (as := l)).symm⟩, q⟩⟩
theorem gc_abs : GC K (fun xs H Q => ∃ i, xs = [.int i] ∧ Q (.int (if i < 0 then -i else i)) H) [false] absD := gc1 fun v x d H Q hv e => by
  cases x <;> try (cases e; done)
  rw [hv.int_inv, ← ok_inj e]
  exact ⟨_, rfl, fun q => ⟨_, rfl, q⟩⟩
theorem gc_int : GC K (fun xs H Q => (∃ i, xs = [.int i] ∧ Q (.int i) H) ∨ ∃ k, xs = [.bl k] ∧ Q (.int (if k then 1 else 0)) H) [false] intD := gc1 fun v x d H Q hv e => by
  cases x <;> try (cases e; done)
  · rw [hv.bl_inv, ← ok_inj e]
    exact ⟨_, rfl, fun q => .inr ⟨_, rfl, q⟩⟩
  · rw [hv.int_inv, ← ok_inj e]
    exact ⟨_, rfl, fun q => .inl ⟨_, rfl, q⟩⟩
theorem gc_sum : GC K (rSum K) [false] sumD := gc1 fun v x d H Q hv e => by
  cases h : listInts x with
  | none =>
    have e' : (match listInts x with | some ns => R.ok (D.int ns.sum) | none => .no) = .ok d := e
    rw [h] at e'
    cases e'
  | some ns =>
    have e' : (match listInts x with | some ns => R.ok (D.int ns.sum) | none => .no) = .ok d := e
    rw [h] at e'
    obtain ⟨a, rfl, k⟩ := listInts_rd hv h
    rw [← ok_inj e']
    exact ⟨_, rfl, fun q => ⟨a, ns, rfl, k, q⟩⟩
theorem foldl_max : ∀ (ns : List Int) (n : Int), (∀ y, y ∈ n :: ns → y ≤ ns.foldl max n) ∧ ns.foldl max n ∈ n :: ns
  | [], n => ⟨fun y h => by simp at h; simp [h], by simp⟩
  | m :: ns, n => by
    obtain ⟨h1, h2⟩ := foldl_max ns (max n m)
    refine ⟨fun y h => ?_, ?_⟩
    · rw [List.foldl_cons]
      have h3 := h1 (max n m) List.mem_cons_self
      rcases List.mem_cons.mp h with rfl | h
      · omega
      · rcases List.mem_cons.mp h with rfl | h
        · omega
        · exact h1 y (List.mem_cons_of_mem _ h)
    · rw [List.foldl_cons]
      rcases List.mem_cons.mp h2 with h | h
      · rw [h]
        by_cases c : n ≤ m
        · rw [Int.max_eq_right c]
          simp
        · rw [Int.max_eq_left (by omega)]
          simp
      · exact List.mem_cons_of_mem _ (List.mem_cons_of_mem _ h)
theorem foldl_min : ∀ (ns : List Int) (n : Int), (∀ y, y ∈ n :: ns → ns.foldl min n ≤ y) ∧ ns.foldl min n ∈ n :: ns
  | [], n => ⟨fun y h => by simp at h; simp [h], by simp⟩
  | m :: ns, n => by
    obtain ⟨h1, h2⟩ := foldl_min ns (min n m)
    refine ⟨fun y h => ?_, ?_⟩
    · rw [List.foldl_cons]
      have h3 := h1 (min n m) List.mem_cons_self
      rcases List.mem_cons.mp h with rfl | h
      · omega
      · rcases List.mem_cons.mp h with rfl | h
        · omega
        · exact h1 y (List.mem_cons_of_mem _ h)
    · rw [List.foldl_cons]
      rcases List.mem_cons.mp h2 with h | h
      · rw [h]
        by_cases c : n ≤ m
        · rw [Int.min_eq_left c]
          simp
        · rw [Int.min_eq_right (by omega)]
          simp
      · exact List.mem_cons_of_mem _ (List.mem_cons_of_mem _ h)
theorem max_inv {x d : D} (e : maxD [x] = .ok d) : ∃ n ns, listInts x = some (n :: ns) ∧ d = .int (maxL (n :: ns)) := by
  have e' : (match listInts x with | some (n :: ns) => R.ok (D.int (maxL (n :: ns))) | _ => .no) = .ok d := by cases x <;> exact e
  cases h : listInts x with
  | none => rw [h] at e'; cases e'
  | some l =>
    rw [h] at e'
    cases l with
    | nil => cases e'
    | cons n ns => exact ⟨n, ns, rfl, (ok_inj e').symm⟩
theorem min_inv {x d : D} (e : minD [x] = .ok d) : ∃ n ns, listInts x = some (n :: ns) ∧ d = .int (minL (n :: ns)) := by
  have e' : (match listInts x with | some (n :: ns) => R.ok (D.int (minL (n :: ns))) | _ => .no) = .ok d := by cases x <;> exact e
  cases h : listInts x with
  | none => rw [h] at e'; cases e'
  | some l =>
    rw [h] at e'
    cases l with
    | nil => cases e'
    | cons n ns => exact ⟨n, ns, rfl, (ok_inj e').symm⟩
theorem gc_max : GC K (rMax K) [false] maxD := gc1 fun v x d H Q hv e => by
  obtain ⟨n, ns, h, rfl⟩ := max_inv e
  obtain ⟨a, rfl, k⟩ := listInts_rd hv h
  refine ⟨_, rfl, fun q => ⟨a, n :: ns, rfl, k, Nat.succ_pos _, fun m h1 h2 => ?_⟩⟩
  obtain ⟨h3, h4⟩ := foldl_max ns n
  have : m = ns.foldl max n := by
    have a1 := h3 m h1
    have a2 := h2 _ h4
    omega
  rw [this]
  exact q
theorem gc_min : GC K (rMin K) [false] minD := gc1 fun v x d H Q hv e => by
  obtain ⟨n, ns, h, rfl⟩ := min_inv e
  obtain ⟨a, rfl, k⟩ := listInts_rd hv h
  refine ⟨_, rfl, fun q => ⟨a, n :: ns, rfl, k, Nat.succ_pos _, fun m h1 h2 => ?_⟩⟩
  obtain ⟨h3, h4⟩ := foldl_min ns n
  have : m = ns.foldl min n := by
    have a1 := h3 m h1
    have a2 := h2 _ h4
    omega
  rw [this]
  exact q
/-! ### sorted -/
theorem nea_len : NoErA lenD := fun ds c p => by unfold lenD; repeat' split
                                                 all_goals exact fun z => nomatch z
theorem nea_abs : NoErA absD := fun ds c p => by unfold absD; repeat' split
                                                 all_goals exact fun z => nomatch z
theorem nea_int : NoErA intD := fun ds c p => by unfold intD; repeat' split
                                                 all_goals exact fun z => nomatch z
theorem nea_sum : NoErA sumD := fun ds c p => by unfold sumD; repeat' split
                                                 all_goals exact fun z => nomatch z
theorem nea_max : NoErA maxD := fun ds c p => by unfold maxD; repeat' split
                                                 all_goals exact fun z => nomatch z
theorem nea_min : NoErA minD := fun ds c p => by unfold minD; repeat' split
                                                 all_goals exact fun z => nomatch z
theorem nea_list : NoErA listD := fun ds c p => by unfold listD; repeat' split
                                                   all_goals exact fun z => nomatch z
end
end BW
/-! BCore8: what is walked; comprehensions; slices. -/
namespace BW
open PySem PySem.Spec PyProof.Rows L2
open Evl (Ex Ex.refl Ex.trans Ex.new ex_rd ex_l ex_t)

/-- a turn gives the i-th of ds -/
def YD (K : PySem.W.Frag) (ds : List D) (I : Hp) : Nat → Hp → V → Hp → Prop := fun i H x H' => ∃ d, ds[i]? = some d ∧ ((H' = H ∧ Rd K I x d) ∨ ∃ T u, H T = none ∧ H' = upd H T u ∧ Rd K (upd I T u) x d)
def Serves (K : PySem.W.Frag) (J : It) (ds : List D) (I : Hp) : Prop := Walk J ds.length (fun H => Ex I H) (YD K ds I)
def PostI (K : PySem.W.Frag) (W : WX) (σ : L2.St) (I H : Hp) (r : R D) (Q : It → Hp → Prop) : Prop := match r with
  | .ok (.lst ds) => ∀ J I' H', Grow I H I' H' → Serves K J ds I' → Q J H'
  | .er c p => ∀ cls od I' H', Grow I H I' H' → ErrIs K c p cls od I' → W cls od σ H'
  | _ => False
def rdI (K : PySem.W.Frag) (W : WX) (A H0 : Hp) (f : F) : TI := fun σ H R => ∃ env I, Rel K A H0 env σ I H ∧ PostI K W σ I H (f env) R
def VI (X : Cx) (W : WX) (A H0 : Hp) (tg e : Expr) (f : F) : Prop := PI X tg e (rdI X.K W A H0 f)
theorem pi_imp {X : Cx} {tg e : Expr} {t t' : TI} (h : PI X tg e t) (k : ∀ σ H R, t' σ H R → t σ H R) : PI X tg e t' := ⟨fun pins s σ H R I q => h.run pins s σ H R I (k σ H R q)⟩
/-- a list, a tuple, a list's content, the script: what it holds -/
def seqD : D → R D
  | .lst l => .ok (.lst l)
  | .tup l => .ok (.lst l)
  | .scr l => .ok (.lst (l.map D.int))
  | _ => .no
section
variable {K : PySem.W.Frag} {I H : Hp} {a : Addr} {vs : List V} {ds : List D}
theorem serves_list (h1 : SqL K I a vs) (h2 : RdA K I vs ds) : Serves K (Itl K a) ds I := by
  have w := walk_list (K := K) (a := a) (xs := vs)
  rw [h2.length] at w
  exact w.mono (fun H' e => ex_l e h1) fun i H' x H'' hi e y => by
    obtain ⟨d, k1, k2⟩ := h2.getV y.2
    exact ⟨d, k1, .inl ⟨y.1, k2⟩⟩
theorem serves_tup (h1 : SqT K I a vs) (h2 : RdA K I vs ds) : Serves K (Itt K a) ds I := by
  have w := walk_tup (K := K) (a := a) (xs := vs)
  rw [h2.length] at w
  exact w.mono (fun H' e => ex_t e h1) fun i H' x H'' hi e y => by
    obtain ⟨d, k1, k2⟩ := h2.getV y.2
    exact ⟨d, k1, .inl ⟨y.1, k2⟩⟩
def rangeL (lo : Int) (n : Nat) : List D := (List.range n).map fun k => D.int (lo + (k : Nat))
theorem rangeL_len (lo : Int) (n : Nat) : (rangeL lo n).length = n := by unfold rangeL; rw [List.length_map, List.length_range]
theorem rangeL_get {lo : Int} {n i : Nat} (h : i < n) : (rangeL lo n)[i]? = some (.int (lo + (i : Nat))) := by
  unfold rangeL
  rw [List.getElem?_map, List.getElem?_range h]
  rfl
theorem serves_range {lo : Int} {n : Nat} : Serves K (Itr lo n) (rangeL lo n) I := by
  have w := walk_range (lo := lo) (n := n)
  unfold Serves
  rw [rangeL_len]
  exact w.mono (fun _ _ => trivial) fun i H' x H'' hi e y => by
    obtain ⟨e1, e2⟩ := y
    subst e1 e2
    exact ⟨_, rangeL_get hi, .inl ⟨rfl, .int⟩⟩
end
section
variable {X : Cx} {W : WX} {A H0 : Hp} {a b c e tg : Expr} {fa fb fc f : F} {pos : Pos} {tl : TE}
/-- a list or a tuple walked -/
def iSeq (K : PySem.W.Frag) (tl : TE) : TI := fun σ H R => tl σ H fun x H1 => ∃ p, x = .ref p ∧ ((∃ xs, SqL K H1 p xs ∧ R (Itl K p) H1) ∨ ∃ xs, SqT K H1 p xs ∧ R (Itt K p) H1)
theorem pi_seq (hl : PE X e tl) : PI X tg e (iSeq X.K tl) := by
  refine ⟨fun pins s0 σ H R I h => ?_⟩
  refine thn (hl.run pins s0 σ H _ I h) fun v s2 ⟨x, H2, I2, rx, p, ex, q⟩ => ?_
  subst ex
  cases rx
  have fr : ∀ b ∈ [s2.heap.objs.size], FpOk X pins H2 b := fun b hb => by
    rw [List.mem_singleton.mp hb]
    exact I2.fpOk (Nat.le_refl _) (I2.hok.fresh (Nat.le_refl _))
  rcases q with ⟨xs, hq, q⟩ | ⟨xs, hq, q⟩
  · obtain ⟨its, _, pl, _⟩ := I2.list hq
    exact wpAny_pyIter_list pl.isList ⟨_, _, _, _, H2, rfl, I2.kept (t' := s2.toks) fun _ _ w => Heap.get?_push_of_some _ w, turn_list p _, ⟨_, Heap.get?_push_size _ rfl, rfl, rfl⟩, fr, q⟩
  · obtain ⟨its, _, pl, _⟩ := I2.tuple hq
    exact wpAny_pyIter_tuple (show s2.heap.IsTuple p its.toArray from pl) ⟨_, _, _, _, H2, rfl, I2.kept (t' := s2.toks) fun _ _ w => Heap.get?_push_of_some _ w, turn_tuple p _, ⟨_, Heap.get?_push_size _ rfl, rfl, rfl⟩, fr, q⟩
theorem vi_seq (h : VE X W A H0 e f) : VI X W A H0 tg e (f1 seqD f) := pi_imp (pi_seq h) fun σ H R ⟨env, I, rl, q⟩ => ⟨env, I, rl, by
  have q1 : PostI X.K W σ I H ((f env).bind seqD) R := q
  cases hf : f env with
  | ok d =>
    rw [hf] at q1
    intro v I' H' g k
    cases k <;> try (exact q1.elim)
    · rename_i h1 h2
      exact ⟨_, rfl, .inl ⟨_, .inl (.inl (g.ih _ _ h1)), q1 _ I' H' g (serves_list (.inl (.inl h1)) h2)⟩⟩
    · rename_i h1 h2
      exact ⟨_, rfl, .inr ⟨_, (h1.mono g.ih).sq, q1 _ I' H' g (serves_tup h1.sq h2)⟩⟩
    · rename_i h1
      exact ⟨_, rfl, .inl ⟨_, ex_l g.ih h1, q1 _ I' H' g (serves_list h1 RdA.ints)⟩⟩
  | er c p => rw [hf] at q1; exact q1
  | no => rw [hf] at q1; exact q1.elim⟩
def rangeD : List D → R D
  | [.int n] => if -(2 ^ 62) ≤ n ∧ n < 2 ^ 62 then .ok (.lst (rangeL 0 n.toNat)) else .no
  | [.int lo, .int n] => if -(2 ^ 62) ≤ lo ∧ lo < 2 ^ 62 ∧ -(2 ^ 62) ≤ n ∧ n < 2 ^ 62 then .ok (.lst (rangeL lo (n - lo).toNat)) else .no
  | _ => .no
theorem vi_range1 {fs : FA} {p : Pos} (hm : X.mg "range" = none) (ha : VA X W A H0 [a] [false] fs) (hg : Gl X "range" := by rfl) (hs : starEach [a] X.env = [(false, eval a X.env)] := by rfl) : VI X W A H0 tg (.Call (.Name "range" p) [a] [] pos) (fA rangeD fs) :=
  pi_imp (pi_range1 hg hm ha hs) fun σ H Z ⟨env, I, rl, q⟩ => ⟨env, I, rl, by
    have q1 : PostI X.K W σ I H ((fs env).bind rangeD) Z := q
    cases hf : fs env with
    | ok ds =>
      rw [hf] at q1
      intro vs I' H' g k
      obtain ⟨d, rfl⟩ := one_of (argsLen k)
      obtain ⟨v, rfl, hv⟩ := args1 k
      cases d <;> try (exact q1.elim)
      rename_i n
      have q2 : PostI X.K W σ I H (if -(2 ^ 62) ≤ n ∧ n < 2 ^ 62 then R.ok (D.lst (rangeL 0 n.toNat)) else .no) Z := q1
      by_cases hc : -(2 ^ 62) ≤ n ∧ n < 2 ^ 62
      · rw [if_pos hc] at q2
        rw [hv.int_inv]
        exact ⟨n, rfl, hc.1, hc.2, q2 _ I' H' g serves_range⟩
      · rw [if_neg hc] at q2
        exact q2.elim
    | er c p => rw [hf] at q1; exact q1
    | no => rw [hf] at q1; exact q1.elim⟩
theorem vi_range2 {fs : FA} {p : Pos} (hm : X.mg "range" = none) (ha : VA X W A H0 [a, b] [false, false] fs) (hg : Gl X "range" := by rfl) (hs : starEach [a, b] X.env = [(false, eval a X.env), (false, eval b X.env)] := by rfl) (hs2 : starEach [b] X.env = [(false, eval b X.env)] := by rfl) :
    VI X W A H0 tg (.Call (.Name "range" p) [a, b] [] pos) (fA rangeD fs) :=
  pi_imp (pi_range2 hg hm ha hs hs2) fun σ H Z ⟨env, I, rl, q⟩ => ⟨env, I, rl, by
    have q1 : PostI X.K W σ I H ((fs env).bind rangeD) Z := q
    cases hf : fs env with
    | ok ds =>
      rw [hf] at q1
      intro vs I' H' g k
      obtain ⟨d, d2, rfl⟩ := two_of (argsLen k)
      obtain ⟨v, u, rfl, hv, hu⟩ := args2 k
      cases d <;> try (exact q1.elim)
      cases d2 <;> try (exact q1.elim)
      rename_i n m
      have q2 : PostI X.K W σ I H (if -(2 ^ 62) ≤ n ∧ n < 2 ^ 62 ∧ -(2 ^ 62) ≤ m ∧ m < 2 ^ 62 then R.ok (D.lst (rangeL n (m - n).toNat)) else .no) Z := q1
      by_cases hc : -(2 ^ 62) ≤ n ∧ n < 2 ^ 62 ∧ -(2 ^ 62) ≤ m ∧ m < 2 ^ 62
      · rw [if_pos hc] at q2
        rw [hv.int_inv, hu.int_inv]
        exact ⟨n, m, rfl, hc, q2 _ I' H' g serves_range⟩
      · rw [if_neg hc] at q2
        exact q2.elim
    | er c p => rw [hf] at q1; exact q1
    | no => rw [hf] at q1; exact q1.elim⟩

/-! ### targets -/
abbrev FT := D → En → R En
def tN (i : Nat) : FT := fun d env => .ok (env.set i (.im d))
def tsNil : List D → En → R En
  | [], env => .ok env
  | _ :: _, _ => .no
def tsCons (t : FT) (u : List D → En → R En) : List D → En → R En
  | d :: ds, env => (t d env).bind fun e => u ds e
  | [], _ => .no
def tT (n : Nat) (u : List D → En → R En) : FT := fun d env => match d with
  | .tup l => if l.length = n then u l env else .no
  | _ => .no
/-- ts: the slots that the target stores -/
def GPost (K : PySem.W.Frag) (A H0 : Hp) (ts : List Nat) (σ : L2.St) (I H : Hp) (r : R En) (Q : L2.St → Hp → Prop) : Prop := match r with
  | .ok e => ∀ σ' : L2.St, Rel K A H0 e σ' I H → (∀ j, j ∉ ts → σ'[j]? = σ[j]?) → σ'.length = σ.length → Q σ' H
  | _ => False
def rdG (K : PySem.W.Frag) (A H0 : Hp) (ts : List Nat) (t : FT) : TG := fun v σ H Q => ∃ d env I, Rel K A H0 env σ I H ∧ Rd K I v d ∧ GPost K A H0 ts σ I H (t d env) Q
def rdGs (K : PySem.W.Frag) (A H0 : Hp) (ts : List Nat) (t : List D → En → R En) : TGs := fun vs σ H Q => ∃ ds env I, Rel K A H0 env σ I H ∧ RdA K I vs ds ∧ GPost K A H0 ts σ I H (t ds env) Q
def VG (X : Cx) (A H0 : Hp) (tg : Expr) (ts : List Nat) (t : FT) : Prop := PG X tg (rdG X.K A H0 ts t)
def VGs (X : Cx) (A H0 : Hp) (tg : List Expr) (ts : List Nat) (t : List D → En → R En) : Prop := PGs X tg (rdGs X.K A H0 ts t)
theorem pg_imp {t t' : TG} (h : PG X tg t) (k : ∀ v σ H Q, t' v σ H Q → t v σ H Q) : PG X tg t' := ⟨fun pins s σ H v u Q I r q => h.run pins s σ H v u Q I r (k _ _ _ _ q)⟩
theorem pgs_imp {ts : List Expr} {t t' : TGs} (h : PGs X ts t) (k : ∀ v σ H Q, t' v σ H Q → t v σ H Q) : PGs X ts t' := ⟨fun pins s σ H v u Q I r q => h.run pins s σ H v u Q I r (k _ _ _ _ q)⟩
theorem vg_name (i : Nat) {x : Str} (hN : X.N.Nodup) (hi : X.N[i]? = some x := by rfl) (hx : Loc X.env.scope x := by first | exact .inl rfl | exact .inr rfl) (hf : X.fn x = true ∨ X.env.scope.names.lookup x = some .local := by first | exact .inl rfl | exact .inr rfl | assumption) : VG X A H0 (.Name x pos) [i] (tN i) :=
  pg_imp (pg_name hN hi hx hf) fun v σ H Q ⟨d, env, I, rl, k, q⟩ => q _ (rl.set_im k) (fun j hj => List.getElem?_set_ne (by simp at hj; omega)) (List.length_set ..)
theorem vgs_nil : VGs X A H0 [] [] tsNil := pgs_imp pgs_nil fun vs σ H Q ⟨ds, env, I, rl, k, q⟩ => by
  cases k with
  | nil => exact ⟨rfl, q σ rl (fun _ _ => rfl) rfl⟩
  | cons => exact q.elim
theorem vgs_cons {es : List Expr} {t : FT} {u : List D → En → R En} {ts us : List Nat} (h1 : VG X A H0 e ts t) (h2 : VGs X A H0 es us u) (he : (assignEach (e :: es) X.env).map (·.2) = assign e X.env :: (assignEach es X.env).map (·.2) := by rfl) : VGs X A H0 (e :: es) (ts ++ us) (tsCons t u) := by
  refine pgs_imp (pgs_cons h1 h2 he) fun vs σ H Q z => ?_
  obtain ⟨ds, env, I, rl, k, q⟩ := z
  cases k with
  | nil => exact q.elim
  | cons k1 k2 =>
    rename_i v d vs2 ds2
    have q1 : GPost X.K A H0 (ts ++ us) σ I H ((t d env).bind fun e => u ds2 e) Q := q
    refine ⟨v, vs2, rfl, d, env, I, rl, k1, ?_⟩
    cases ht : t d env with
    | ok e1 =>
      rw [ht] at q1
      have q2 : GPost X.K A H0 (ts ++ us) σ I H (u ds2 e1) Q := q1
      refine fun σ' rl' h3 h4 => ⟨ds2, e1, I, rl', k2, ?_⟩
      cases hu : u ds2 e1 with
      | ok e2 =>
        rw [hu] at q2
        exact fun σ2 rl2 h5 h6 => q2 σ2 rl2 (fun j hj => (h5 j fun z => hj (List.mem_append_right _ z)).trans (h3 j fun z => hj (List.mem_append_left _ z))) (h6.trans h4)
      | er c p => rw [hu] at q2; exact q2.elim
      | no => rw [hu] at q2; exact q2.elim
    | er c p => rw [ht] at q1; exact q1.elim
    | no => rw [ht] at q1; exact q1.elim
theorem vg_tup {es : List Expr} {k : Nat} {u : List D → En → R En} {ts : List Nat} (hc : X.calm = true) (h : VGs X A H0 es ts u) (hn : (assignEach es X.env).length = es.length := by rfl) (hst : (assignEach es X.env).findIdx? (·.1) = none := by rfl) : VG X A H0 (.Tuple es k pos) ts (tT es.length u) := by
  refine pg_imp (pg_tup hc h hn hst) fun v σ H Q z => ?_
  obtain ⟨d, env, I, rl, kk, q⟩ := z
  cases d <;> try (exact q.elim)
  rename_i l
  obtain ⟨a, vs, rfl, h1, h2⟩ := kk.tup_inv
  have q1 : GPost X.K A H0 ts σ I H (if l.length = es.length then u l env else .no) Q := q
  by_cases hl : l.length = es.length
  · rw [if_pos hl] at q1
    exact ⟨a, vs, rfl, (h1.mono rl.g.ih).sq, h2.length.trans hl, l, env, I, rl, h2, q1⟩
  · rw [if_neg hl] at q1
    exact q1.elim

/-! ### comprehensions -/
/-- the names of the block forgotten -/
def wipeE (env : En) : List Nat → En
  | [] => env
  | v :: vs => (wipeE env vs).set v .no
theorem wipeE_len (env : En) : ∀ vs, (wipeE env vs).length = env.length
  | [] => rfl
  | v :: vs => by unfold wipeE; rw [List.length_set, wipeE_len env vs]
theorem wipeE_get {env : En} {σ : L2.St} : ∀ {vs : List Nat} {i : Nat} {s : Sl}, (wipeE env vs)[i]? = some s → s = .no ∨ (env[i]? = some s ∧ (wipe σ vs)[i]? = σ[i]?)
  | [], i, s, h => .inr ⟨h, rfl⟩
  | v :: vs, i, s, h => by
    have h' : ((wipeE env vs).set v .no)[i]? = some s := h
    by_cases e : v = i
    · subst e
      have hl : v < (wipeE env vs).length := by
        have := (List.getElem?_eq_some_iff.mp h').1
        rwa [List.length_set] at this
      rw [List.getElem?_set_self hl] at h'
      exact .inl (Option.some.inj h').symm
    · rw [List.getElem?_set_ne e] at h'
      rcases wipeE_get (σ := σ) h' with z | ⟨z, y⟩
      · exact .inl z
      · refine .inr ⟨z, ?_⟩
        show ((wipe σ vs).set v none)[i]? = _
        rw [List.getElem?_set_ne e, y]
theorem Rel.wipe {K : PySem.W.Frag} {A H0 : Hp} {env : En} {σ : L2.St} {I H : Hp} (r : Rel K A H0 env σ I H) (vs : List Nat) : Rel K A H0 (wipeE env vs) (wipe σ vs) I H :=
  r.less (wipeE_len env vs) (wipe_length σ vs) fun _ _ h => wipeE_get h
/-- nothing is let out of a block -/
def R.bindQ {α β : Type} (x : R α) (f : α → R β) : R β := match x with
  | .ok a => f a
  | _ => .no
/-- what the turns make -/
def lcF (tgt : FT) (test elt : F) (env : En) : List D → R (List D)
  | [] => .ok []
  | d :: ds => (tgt d env).bindQ fun e => (test e).bindQ fun
    | .bl c => cond c ((elt e).bindQ fun y => (lcF tgt test elt env ds).bindQ fun r => .ok (y :: r)) (lcF tgt test elt env ds)
    | _ => .no
def fLc (items : F) (tgt : FT) (test elt : F) (own : List Nat) : F := fun env => (items env).bind fun
  | .lst ds => if ds.length ≤ 16777216 then (lcF tgt test elt (wipeE env own) ds).bindQ fun r => .ok (.lst r) else .no
  | _ => .no
def VTs (X : Cx) (W : WX) (A H0 : Hp) (es : List Expr) (f : F) : Prop := PTs X es (rdT X.K W A H0 f)
theorem vts_nil : VTs X W A H0 [] (fC (.bl true)) := ⟨fun pins s σ H Q I ⟨env, I', r, q⟩ => pts_nil.run pins s σ H Q I (q I' H (Grow.refl r.g.ih))⟩
abbrev WF : WX := fun _ _ _ _ => False
theorem wipe_out {σ : L2.St} : ∀ {vs : List Nat} {j : Nat}, j ∉ vs → (wipe σ vs)[j]? = σ[j]?
  | [], _, _ => rfl
  | v :: vs, j, h => by
    show ((wipe σ vs).set v none)[j]? = _
    rw [List.getElem?_set_ne (fun z => h (by rw [z]; exact List.mem_cons_self)), wipe_out fun z => h (List.mem_cons_of_mem _ z)]
theorem wipe_in {σ : L2.St} : ∀ {vs : List Nat} {j : Nat}, j ∈ vs → j < σ.length → (wipe σ vs)[j]? = some none
  | v :: vs, j, h, hl => by
    show ((wipe σ vs).set v none)[j]? = _
    by_cases e : v = j
    · subst e
      exact List.getElem?_set_self (by rw [wipe_length]; exact hl)
    · rw [List.getElem?_set_ne e]
      rcases List.mem_cons.mp h with z | z
      · exact absurd z.symm e
      · exact wipe_in z hl
theorem wipe_same {σ σ' : L2.St} {vs : List Nat} (h : ∀ j, j ∉ vs → σ'[j]? = σ[j]?) (hl : σ'.length = σ.length) : wipe σ' vs = wipe σ vs := by
  refine List.ext_getElem? fun j => ?_
  by_cases hj : j ∈ vs
  · by_cases hb : j < σ.length
    · rw [wipe_in hj hb, wipe_in hj (by rw [hl]; exact hb)]
    · rw [List.getElem?_eq_none (by rw [wipe_length]; omega), List.getElem?_eq_none (by rw [wipe_length]; omega)]
  · rw [wipe_out hj, wipe_out hj, h j hj]
theorem bindQ_ok {α β : Type} {x : R α} {f : α → R β} {y : β} (e : x.bindQ f = .ok y) : ∃ a, x = .ok a ∧ f a = .ok y := by
  cases x with
  | ok a => exact ⟨a, rfl, e⟩
  | er c p => cases e
  | no => cases e
theorem Ex.upd2 {I J : Hp} {T : Addr} {u : HO} (e : Ex I J) : Ex (upd I T u) (upd J T u) := fun b o q => by
  by_cases z : b = T
  · subst z
    rw [upd_same] at q ⊢
    exact q
  · rw [upd_ne z] at q ⊢
    exact e b o q
/-- a turn's item, told in a heap that has grown -/
theorem yd_grow {K : PySem.W.Frag} {ds : List D} {I1 I H H' : Hp} {i : Nat} {x : V} (e1 : Ex I1 I) (ih : Ex I H) (y : YD K ds I1 i H x H') : ∃ d I', ds[i]? = some d ∧ Grow I H I' H' ∧ Rd K I' x d ∧ ∀ b, H b ≠ none → I' b = I b := by
  obtain ⟨d, h1, h2⟩ := y
  rcases h2 with ⟨rfl, h2⟩ | ⟨T, u, h2, rfl, h3⟩
  · exact ⟨d, I, h1, Grow.refl ih, h2.mono e1, fun _ _ => rfl⟩
  · exact ⟨d, upd I T u, h1, Grow.push ih h2, h3.mono (Ex.upd2 e1), fun b hb => upd_ne (fun z => hb (by rw [z]; exact h2))⟩
theorem grow_keep {I H I' H' : Hp} (g : Grow I H I' H') {b : Addr} {o : HO} (hb : H b = some o) (h : I b = none) : I' b = none := by
  cases q : I' b with
  | none => rfl
  | some u =>
    rcases g.new b u q with z | z
    · rw [h] at z; cases z
    · rw [hb] at z; cases z
theorem lc_run {fi ft fe : F} {t : FT} {ts vs : List Nat} (hts : ts.all (fun j => vs.contains j) = true) {σ : L2.St} {H : Hp} {Q : VK} (z : rdF X.K W A H0 (fLc fi t ft fe vs) σ H Q) : tLc (rdI X.K W A H0 fi) (rdG X.K A H0 ts t) (rdT X.K WF A H0 ft) (rdE X.K WF A H0 fe) vs σ H Q := by
  obtain ⟨env, I, rl, q⟩ := z
  refine ⟨env, I, rl, ?_⟩
  unfold fLc at q
  cases hf : fi env with
  | er c p => rw [hf] at q; exact q
  | no => rw [hf] at q; exact q.elim
  | ok d =>
    rw [hf] at q
    cases d with
    | lst ds =>
      have q1 : PostF X.K W σ I H (if ds.length ≤ 16777216 then (lcF t ft fe (wipeE env vs) ds).bindQ fun r => .ok (.lst r) else .no) Q := q
      by_cases hz : ds.length ≤ 16777216
      · rw [if_pos hz] at q1
        cases hl : lcF t ft fe (wipeE env vs) ds with
        | er c p => rw [hl] at q1; exact q1.elim
        | no => rw [hl] at q1; exact q1.elim
        | ok res =>
          rw [hl] at q1
          intro J I1 H1 g1 sv Dl hD
          have i0 : I1 Dl = none := Evl.fresh_back g1.ih hD
          refine lc_it sv (fun i H2 => ∃ I2 acc dn rest, Grow I1 H1 I2 H2 ∧ H2 Dl = some (.lst acc) ∧ I2 Dl = none ∧ RdA X.K I2 acc dn ∧ lcF t ft fe (wipeE env vs) (ds.drop i) = .ok rest ∧ dn ++ rest = res ∧ dn.length ≤ i) ?_ ?_ ?_ ?_
          · exact ⟨I1, [], [], res, Grow.hid g1.ih (Ex.new hD), upd_same, i0, .nil, hl, rfl, Nat.le_refl _⟩
          · exact fun i H2 _ ⟨I2, acc, dn, rest, g2, _⟩ => g2.i.trans g2.ih
          · intro i x H2 H3 hi ⟨I2, acc, dn, rest, g2, a1, a2, a3, a4, a5, a6⟩ y
            obtain ⟨d, I3, e1, g3, k3, k4⟩ := yd_grow g2.i g2.ih y
            have dl3 : H3 Dl = some (.lst acc) := g3.h _ _ a1
            have di3 : I3 Dl = none := grow_keep g3 a1 a2
            have rl3 := ((rl.grow g1).grow (g2.trans g3)).wipe vs
            have hd : ds.drop i = d :: ds.drop (i + 1) := List.drop_eq_getElem?_toList_append .. |>.trans (by rw [e1]; rfl)
            rw [hd] at a4
            obtain ⟨env1, b1, b2⟩ := bindQ_ok (show (t d (wipeE env vs)).bindQ _ = .ok rest from a4)
            obtain ⟨tv, b3, b4⟩ := bindQ_ok b2
            refine ⟨d, wipeE env vs, I3, rl3, k3, ?_⟩
            rw [b1]
            refine fun σ2 rl4 h5 h6 => ⟨?_, env1, I3, rl4, ?_⟩
            · rw [wipe_same (σ := wipe σ vs) (σ' := σ2) (vs := vs) (fun j hj => h5 j fun z => hj (by simpa using (List.all_eq_true.mp hts) j z)) h6]
              refine wipe_same (fun j hj => wipe_out hj) (wipe_length σ vs)
            · rw [b3]
              cases tv with
              | bl b =>
                cases b with
                | true =>
                  obtain ⟨yv, b5, b6⟩ := bindQ_ok b4
                  obtain ⟨rr, b7, b8⟩ := bindQ_ok b6
                  refine fun I4 H4 g4 => iteT ⟨env1, I4, rl4.grow g4, ?_⟩
                  rw [b5]
                  refine fun v I5 H5 g5 k5 => ⟨acc, g5.h _ _ (g4.h _ _ dl3), ?_, I5, acc ++ [v], dn ++ [yv], rr, ?_, upd_same, grow_keep (g4.trans g5) dl3 di3, ?_, b7, ?_, ?_⟩
                  · rw [a3.length]
                    have h9 : sizeLine = 16777216 := by decide
                    rw [h9]
                    omega
                  · have g6 := ((g2.trans g3).trans g4).trans g5
                    exact ⟨g6.i, Evl.Ex.mut g6.h hD, Evl.Ex.mut g6.ih (grow_keep (g4.trans g5) dl3 di3), g6.new⟩
                  · exact (a3.mono ((g3.i.trans g4.i).trans g5.i)).snoc k5
                  · rw [List.append_assoc, ← a5]
                    rw [← ok_inj b8]
                    rfl
                  · rw [List.length_append]
                    show dn.length + 1 ≤ i + 1
                    omega
                | false =>
                  refine fun I4 H4 g4 => iteF ⟨I4, acc, dn, rest, (g2.trans g3).trans g4, g4.h _ _ dl3, grow_keep g4 dl3 di3, a3.mono (g3.i.trans g4.i), b4, a5, by omega⟩
              | _ => cases b4
          · rintro H2 ⟨I2, acc, dn, rest, g2, a1, a2, a3, a4, a5, a6⟩
            rw [List.drop_length] at a4
            cases a4
            rw [List.append_nil] at a5
            subst a5
            exact q1 Dl acc I2 H2 (g1.trans g2) (Evl.fresh_back g1.h hD) a2 a1 a3
      · rw [if_neg hz] at q1
        exact q1.elim
    | _ => exact q.elim
theorem vf_lc {elt iter : Expr} {ifs : List Expr} {scope : Scope} {own : List (Str × Nat)} {fi ft fe : F} {t : FT} {ts : List Nat} (hc : X.calm = true) (hN : X.N.Nodup) (hi : VI X W A H0 tg iter fi) (ok : BlkOk X.N X.env.scope scope own)
    (hg : ∀ (s : Shared) (H : Hp) (C : Addr) (cl : List (Str × Addr)) (fp : List Addr), VG (X.blk s H scope (compEnvC scope cl C X.env) fp) A H0 tg ts t) (ht : ∀ (s : Shared) (H : Hp) (C : Addr) (cl : List (Str × Addr)) (fp : List Addr), VTs (X.blk s H scope (compEnvC scope cl C X.env) fp) WF A H0 ifs ft)
    (he : ∀ (s : Shared) (H : Hp) (C : Addr) (cl : List (Str × Addr)) (fp : List Addr), VE (X.blk s H scope (compEnvC scope cl C X.env) fp) WF A H0 elt fe) (hts : ts.all (fun j => (own.map (·.2)).contains j) = true := by rfl) (hs : ∀ x, foldedSetIterable iter X.env x = pure x := by intro _; rfl) :
    VF X W A H0 (.ListComp elt [⟨tg, iter, ifs, 0⟩] scope pos) (fLc fi t ft fe (own.map (·.2))) :=
  pe_imp (pe_lc (g := rdG X.K A H0 ts t) (tt := rdT X.K WF A H0 ft) (te := rdE X.K WF A H0 fe) hc hN hi ok hg ht he hs) fun σ H Q z => lc_run hts z
end
end BW
/-! BCore9: statements. -/
namespace BW
open PySem PySem.Spec PyProof.Rows L2
open Evl (Ex Ex.refl Ex.trans Ex.new ex_rd ex_l ex_t)
inductive SR where
  | nx (e : En) | bk (e : En) | ct (e : En) | rt (d : D) | er (e : En) (c : Nat) (p : List D) | no
abbrev G := En → SR
/-- a pair of two new lists -/
def PPk (K : PySem.W.Frag) (as bs : List D) (I H I' H' : Hp) (t : Addr) : Prop := ∃ ob p q vs ws, Grow I H I' H' ∧ ob.dict = none ∧ (H t = none ∧ I' t = none ∧ H' t = some (.frz ob (.tup [.ref p, .ref q]))) ∧ (H p = none ∧ I' p = none ∧ H' p = some (.lst vs)) ∧ (H q = none ∧ I' q = none ∧ H' q = some (.lst ws)) ∧ p ≠ q ∧ RdA K I' vs as ∧ RdA K I' ws bs
def PostR (K : PySem.W.Frag) (A H0 : Hp) (fr : Bool) (d : D) (Q : VK) : Prop := match fr, d with
  | false, d => ∀ v I' H', Grow A H0 I' H' → Rd K I' v d → Q v H'
  | true, .lst ds => ∀ p vs I' H', Grow A H0 I' H' → H0 p = none → I' p = none → H' p = some (.lst vs) → RdA K I' vs ds → Q (.ref p) H'
  | true, .non => ∀ I' H', Grow A H0 I' H' → Q .non H'
  | true, .tup [x, .lst ds] => (match x.sc with
    | some w => ∀ t ob p vs I' H', Grow A H0 I' H' → ob.dict = none → H0 t = none → I' t = none → H' t = some (.frz ob (.tup [w, .ref p])) → H0 p = none → I' p = none → H' p = some (.lst vs) → RdA K I' vs ds → Q (.ref t) H'
    | none => False)
  | true, .tup [x, .lst ds, _, _] => (match x.sc with
    | some w => ∀ t ob p vs y z I' H', Grow A H0 I' H' → ob.dict = none → H0 t = none → I' t = none → H' t = some (.frz ob (.tup [w, .ref p, y, z])) → H0 p = none → I' p = none → H' p = some (.lst vs) → RdA K I' vs ds → Q (.ref t) H'
    | none => False)
  | true, .tup [.lst as, .lst bs, .non] => ∀ t I' H', PPk K as bs A H0 I' H' t → Q (.ref t) H'
  | true, _ => False
def PostS (K : PySem.W.Frag) (W : WX) (A H0 : Hp) (fr : Bool) (I : Hp) (Z : Ends) (r : SR) : Prop := match r with
  | .nx e => ∀ σ' I' H', Rel K A H0 e σ' I' H' → Ex I I' → Z.nx σ' H'
  | .bk e => ∀ σ' I' H', Rel K A H0 e σ' I' H' → Ex I I' → Z.bk σ' H'
  | .ct e => ∀ σ' I' H', Rel K A H0 e σ' I' H' → Ex I I' → Z.ct σ' H'
  | .rt d => PostR K A H0 fr d Z.rt
  | .er e c p => ∀ σ' I' H' cls od, Rel K A H0 e σ' I' H' → Ex I I' → ErrIs K c p cls od I' → W cls od σ' H'
  | .no => False
def rdS (K : PySem.W.Frag) (W : WX) (A H0 : Hp) (fr : Bool) (g : G) : TS := fun Z σ H => ∃ env I, Rel K A H0 env σ I H ∧ PostS K W A H0 fr I Z (g env)
def VS (X : Cx) (W : WX) (A H0 : Hp) (fr : Bool) (st : Stmt) (g : G) : Prop := PS X st (rdS X.K W A H0 fr g)
def VSs (X : Cx) (W : WX) (A H0 : Hp) (fr : Bool) (st : List Stmt) (g : G) : Prop := PSs X st (rdS X.K W A H0 fr g)
theorem PostS.mono {K : PySem.W.Frag} {W : WX} {A H0 : Hp} {fr : Bool} {I I' : Hp} {Z : Ends} {r : SR} (e : Ex I I') (h : PostS K W A H0 fr I Z r) : PostS K W A H0 fr I' Z r := by
  cases r with
  | nx n => exact fun σ' I2 H' r2 e2 => h σ' I2 H' r2 (e.trans e2)
  | bk n => exact fun σ' I2 H' r2 e2 => h σ' I2 H' r2 (e.trans e2)
  | ct n => exact fun σ' I2 H' r2 e2 => h σ' I2 H' r2 (e.trans e2)
  | rt d => exact h
  | er n c p => exact fun σ' I2 H' cls od r2 e2 k => h σ' I2 H' cls od r2 (e.trans e2) k
  | no => exact h
/-! ### what statements tell -/
def gNext : G := fun env => .nx env
def gBreak : G := fun env => .bk env
def gCont : G := fun env => .ct env
def gSeq (a b : G) : G := fun env => match a env with
  | .nx e => b e
  | r => r
/-- a value's way into a statement -/
def SR.of (env : En) (r : R D) (k : D → SR) : SR := match r with
  | .ok d => k d
  | .er c p => .er env c p
  | .no => .no
def gSet (i : Nat) (f : F) : G := fun env => .of env (f env) fun d => .nx (env.set i (.im d))
def gSetM (i : Nat) (f : F) : G := fun env => .of env (f env) fun
  | .lst l => .nx (env.set i (.mu l))
  | _ => .no
def gDrop (f : F) : G := fun env => .of env (f env) fun _ => .nx env
def gRet (f : F) : G := fun env => .of env (f env) fun d => .rt d
def gRetM (i : Nat) : G := fun env => match env[i]? with
  | some (.mu l) => .rt (.lst l)
  | _ => .no
def gRetN : G := fun _ => .rt .non
def gIf (t : F) (a b : G) : G := fun env => .of env (t env) fun
  | .bl c => cond c (a env) (b env)
  | _ => .no
def gRaise (c : Nat) : G := fun env => .er env c []
def gUnp (t : FT) (f : F) : G := fun env => .of env (f env) fun d => match t d env with
  | .ok e => .nx e
  | _ => .no
def gFrz (i : Nat) : G := fun env => match env[i]? with
  | some (.mu l) => .nx (env.set i (.im (.lst l)))
  | _ => .nx env
/-- a change of one name's own list -/
def gMut (i : Nat) (f : F) (k : List D → D → Option (List D)) : G := fun env => match env[i]? with
  | some (.mu l) => .of env (f env) fun d => (match k l d with
    | some m => .nx (env.set i (.mu m))
    | none => .no)
  | _ => .no
def gMut0 (i : Nat) (k : List D → Option (List D)) : G := fun env => match env[i]? with
  | some (.mu l) => (match k l with
    | some m => .nx (env.set i (.mu m))
    | none => .no)
  | _ => .no
/-- name = list.pop(..) -/
def gPop (j i : Nat) : G := fun env => match env[i]? with
  | some (.mu l) => (match l[l.length - 1]? with
    | some d => .nx ((env.set i (.mu l.dropLast)).set j (.im d))
    | none => .no)
  | _ => .no
/-- name[index] = value -/
def gSetIx (i : Nat) (fi f : F) : G := fun env => match env[i]? with
  | some (.mu l) => .of env (f env) fun d => .of env (fi env) fun
    | .int n => (match ixN l.length n with
      | some k => .nx (env.set i (.mu (l.set k d)))
      | none => .no)
    | _ => .no
  | _ => .no
/-- name += value, whole numbers -/
def gAug (i : Nat) (f : F) (op : Int → Int → Int) : G := fun env => match env[i]? with
  | some (.im (.int x)) => .of env (f env) fun
    | .int y => .nx (env.set i (.im (.int (op x y))))
    | _ => .no
  | _ => .no
def kApp (l : List D) (d : D) : Option (List D) := if l.length < sizeLine then some (l ++ [d]) else none
def kExt (l : List D) (d : D) : Option (List D) := match d with
  | .lst m => if l.length + m.length ≤ sizeLine then some (l ++ m) else none
  | _ => none
def kRev (l : List D) : Option (List D) := some l.reverse
def kClear (_ : List D) : Option (List D) := some []
/-- for: turn by turn -/
def forF (t : FT) (body : G) : List D → G
  | [], env => .nx env
  | d :: ds, env => match t d env with
    | .ok e => (match body e with
      | .nx e => forF t body ds e
      | .ct e => forF t body ds e
      | .bk e => .nx e
      | r => r)
    | _ => .no
def gFor (items : F) (t : FT) (body : G) : G := fun env => .of env (items env) fun
  | .lst ds => forF t body ds env
  | _ => .no
/-- while: at most so many turns -/
def whF (c : F) (body : G) : Nat → G
  | 0, _ => .no
  | n + 1, env => .of env (c env) fun
    | .bl t => cond t (match body env with
      | .nx e => whF c body n e
      | .ct e => whF c body n e
      | .bk e => .nx e
      | r => r) (.nx env)
    | _ => .no
def gWhile (n : Nat) (c : F) (body : G) : G := whF c body n
section
variable {X : Cx} {W : WX} {A H0 : Hp} {fr : Bool} {a b c e tg : Expr} {fa fb fc f : F} {pos : Pos} {st : Stmt} {rest : List Stmt} {g g1 g2 : G}
theorem ps_imp {t t' : TS} (h : PS X st t) (k : ∀ Z σ H, t' Z σ H → t Z σ H) : PS X st t' := ⟨fun pins s σ H Z I q => h.run pins s σ H Z I (k Z σ H q)⟩
theorem pss_imp {t t' : TS} (h : PSs X rest t) (k : ∀ Z σ H, t' Z σ H → t Z σ H) : PSs X rest t' := ⟨fun pins s σ H Z I q => h.run pins s σ H Z I (k Z σ H q)⟩
theorem vss_nil : VSs X W A H0 fr [] gNext := pss_imp pss_nil fun Z σ H ⟨env, I, r, q⟩ => q σ I H r (Ex.refl _)
theorem vss_one (h : VS X W A H0 fr st g) : VSs X W A H0 fr [st] g := pss_one h
theorem vss_cons (h : VS X W A H0 fr st g1) (k : VSs X W A H0 fr rest g2) : VSs X W A H0 fr (st :: rest) (gSeq g1 g2) := pss_imp (pss_cons h k) fun Z σ H ⟨env, I, r, q⟩ => ⟨env, I, r, by
  have q1 : PostS X.K W A H0 fr I Z (match g1 env with | .nx e => g2 e | r => r) := q
  cases hg : g1 env with
  | nx e =>
    rw [hg] at q1
    exact fun σ' I' H' r' e' => ⟨e, I', r', q1.mono e'⟩
  | bk n => rw [hg] at q1; exact q1
  | ct n => rw [hg] at q1; exact q1
  | rt d => rw [hg] at q1; exact q1
  | er n c p => rw [hg] at q1; exact q1
  | no => rw [hg] at q1; exact q1⟩
/-- no further change of a name's list -/
theorem vss_frz (i : Nat) (h : VSs X W A H0 fr rest g) : VSs X W A H0 fr rest (gSeq (gFrz i) g) := pss_imp h fun Z σ H ⟨env, I, r, q⟩ => by
  have q1 : PostS X.K W A H0 fr I Z (match (match env[i]? with | some (.mu l) => SR.nx (env.set i (.im (.lst l))) | _ => .nx env) with | .nx e => g e | r => r) := q
  cases he : env[i]? with
  | none => rw [he] at q1; exact ⟨_, I, r, q1⟩
  | some s =>
    rw [he] at q1
    cases s with
    | mu l =>
      obtain ⟨I', e', r'⟩ := r.freeze he
      exact ⟨_, I', r', q1.mono e'⟩
    | _ => exact ⟨_, I, r, q1⟩
/-- a value, then a statement's rest -/
theorem of_run {K : PySem.W.Frag} {env : En} {σ : L2.St} {I H : Hp} {Z : Ends} {r : R D} {k : D → SR} (rl : Rel K A H0 env σ I H) (q : PostS K W A H0 fr I Z (.of env r k)) {Q : VK} (h : ∀ d v I' H', r = .ok d → Rel K A H0 env σ I' H' → Grow I H I' H' → Rd K I' v d → PostS K W A H0 fr I' Z (k d) → Q v H') : PostE K W σ I H r Q := by
  cases r with
  | ok d => exact fun v I' H' g kk => h d v I' H' rfl (rl.grow g) g kk (PostS.mono g.i q)
  | er c p => exact fun cls od I' H' g kk => q σ I' H' cls od (rl.grow g) g.i kk
  | no => exact q.elim
theorem D.lst_or (d : D) : (∃ l, d = .lst l) ∨ ∀ l, d ≠ .lst l := by
  cases d <;> first | exact .inl ⟨_, rfl⟩ | exact .inr (fun l z => by cases z)
theorem of_runF {K : PySem.W.Frag} {env : En} {σ : L2.St} {I H : Hp} {Z : Ends} {r : R D} {k : D → SR} (rl : Rel K A H0 env σ I H) (hk : ∀ d, (∀ l, d ≠ .lst l) → k d = .no) (q : PostS K W A H0 fr I Z (.of env r k)) {Q : VK} (h : ∀ l p vs I' H', r = .ok (.lst l) → Rel K A H0 env σ I' H' → Grow I H I' H' → H p = none → I' p = none → H' p = some (.lst vs) → RdA K I' vs l → PostS K W A H0 fr I' Z (k (.lst l)) → Q (.ref p) H') : PostF K W σ I H r Q := by
  cases r with
  | ok d =>
    rcases D.lst_or d with ⟨l, rfl⟩ | hd
    · exact fun p vs I' H' g h0 hi h1 h2 => h l p vs I' H' rfl (rl.grow g) g h0 hi h1 h2 (PostS.mono g.i q)
    · have q1 : PostS K W A H0 fr I Z (k d) := q
      rw [hk d hd] at q1
      exact q1.elim
  | er c p => exact fun cls od I' H' g kk => q σ I' H' cls od (rl.grow g) g.i kk
  | no => exact q.elim
theorem vs_set (i : Nat) {x : Str} {pos' : Pos} (hN : X.N.Nodup) (he : VE X W A H0 e f) (hi : X.N[i]? = some x := by rfl) (hx : Loc X.env.scope x := by first | exact .inl rfl | exact .inr rfl) (hs : swapsWith e (some (.Name x pos')) pos.line X.env = pure false := by rfl) (hf : X.fn x = true ∨ X.env.scope.names.lookup x = some .local := by first | exact .inl rfl | exact .inr rfl | assumption) :
    VS X W A H0 fr (.Assign [.Name x pos'] e pos) (gSet i f) := ps_imp (ps_set hN hi hx he hs hf) fun Z σ H ⟨env, I, r, q⟩ => ⟨env, I, r, of_run r q fun d v I' H' _ r' g k q' => q' _ I' H' (r'.set_im k) (Ex.refl _)⟩
theorem setM_run {i : Nat} {Z : Ends} {σ : L2.St} {H : Hp} (h : rdS X.K W A H0 fr (gSetM i f) Z σ H) : rdF X.K W A H0 f σ H (fun x H1 => gName i x σ H1 Z.nx) := by
  obtain ⟨env, I, r, q⟩ := h
  refine ⟨env, I, r, of_runF r (fun d hd => ?_) q fun l p vs I' H' _ r' g h0 hi h1 h2 q' => ?_⟩
  · cases d <;> first | rfl | exact absurd rfl (hd _)
  · exact q' _ I' H' (r'.set_mu hi (Evl.fresh_back r.g.h h0) h1 h2 (fun j m hj z => by
      obtain ⟨a, us, k1, k2, _⟩ := r.mu j m hj
      rw [z] at k1
      cases k1
      rw [h0] at k2
      cases k2) (r.owf g h0)) (Ex.refl _)
theorem vs_setM (i : Nat) {x : Str} {pos' : Pos} (hN : X.N.Nodup) (he : VF X W A H0 e f) (hi : X.N[i]? = some x := by rfl) (hx : Loc X.env.scope x := by first | exact .inl rfl | exact .inr rfl) (hs : swapsWith e (some (.Name x pos')) pos.line X.env = pure false := by rfl) (hf : X.fn x = true ∨ X.env.scope.names.lookup x = some .local := by first | exact .inl rfl | exact .inr rfl | assumption) :
    VS X W A H0 fr (.Assign [.Name x pos'] e pos) (gSetM i f) := ps_imp (ps_set hN hi hx he hs hf) fun Z σ H h => setM_run h
theorem vs_drop (he : VE X W A H0 e f) (hs : swapsWith e none pos.line X.env = pure false := by rfl) : VS X W A H0 fr (.Expr e pos) (gDrop f) := ps_imp (ps_expr he hs) fun Z σ H ⟨env, I, r, q⟩ => ⟨env, I, r, of_run r q fun d v I' H' _ r' g k q' => q' σ I' H' r' (Ex.refl _)⟩
theorem vs_ret (he : VE X W A H0 e f) : VS X W A H0 false (.Return (some e) pos) (gRet f) := ps_imp (ps_ret he) fun Z σ H ⟨env, I, r, q⟩ => ⟨env, I, r, of_run r q fun d v I' H' _ r' g k q' => q' v I' H' r'.g k⟩
theorem vs_retM (i : Nat) {x : Str} {p : Pos} (hN : X.N[i]? = some x := by rfl) (hv : Vis X.env.scope x := by first | exact Or.inl rfl | exact Or.inr (Or.inl rfl) | exact Or.inr (Or.inr rfl)) (hd : (x == ("__debug__" : Str)) = false := by decide) (hcd : (x == ("__classdict__" : Str)) = false := by decide) :
    VS X W A H0 true (.Return (some (.Name x p)) pos) (gRetM i) := ps_imp (ps_ret (pe_var hN hv hd hcd)) fun Z σ H ⟨env, I, r, q⟩ => by
  unfold gRetM at q
  cases he : env[i]? with
  | none => rw [he] at q; exact q.elim
  | some s =>
    rw [he] at q
    cases s with
    | mu l =>
      obtain ⟨a, vs, h1, h2, h3, h4, h5⟩ := r.mu i l he
      exact ⟨.ref a, h1, q a vs I H r.g h4 h3 h2 h5⟩
    | _ => exact q.elim
theorem vs_if {x y : List Stmt} (hc : VT X W A H0 c fc) (ha : VSs X W A H0 fr x g1) (hb : VSs X W A H0 fr y g2) : VS X W A H0 fr (.If c x y pos) (gIf fc g1 g2) := ps_imp (ps_if hc ha hb) fun Z σ H ⟨env, I, r, q⟩ => ⟨env, I, r, by
  unfold gIf at q
  cases hf : fc env with
  | ok d =>
    rw [hf] at q
    cases d with
    | bl t =>
      intro I' H' g
      cases t with
      | true => exact iteT ⟨env, I', r.grow g, PostS.mono g.i q⟩
      | false => exact iteF ⟨env, I', r.grow g, PostS.mono g.i q⟩
    | _ => exact q.elim
  | er c p => rw [hf] at q; exact fun cls od I' H' g kk => q σ I' H' cls od (r.grow g) g.i kk
  | no => rw [hf] at q; exact q.elim⟩
theorem vs_unp {ts : List Nat} {t : FT} (he : VE X W A H0 e f) (hg : VG X A H0 tg ts t) (hs : swapsWithSole [tg] e pos.line X.env = pure false := by rfl) (hw : swappedStores [tg] e X.env = pure none := by rfl) (h1 : (assignEach [tg] X.env).map (·.2) = [assign tg X.env] := by rfl) :
    VS X W A H0 fr (.Assign [tg] e pos) (gUnp t f) := ps_imp (ps_asg he hg hs hw h1) fun Z σ H ⟨env, I, r, q⟩ => ⟨env, I, r, of_run r q fun d v I' H' _ r' g k q' => ⟨d, env, I', r', k, by
      cases ht : t d env with
      | ok e1 =>
        rw [ht] at q'
        exact fun σ' r2 _ _ => q' σ' I' H' r2 (Ex.refl _)
      | er c p => rw [ht] at q'; exact q'.elim
      | no => rw [ht] at q'; exact q'.elim⟩⟩
theorem vs_raise {cc : Nat} {x m : Str} {j : Nat} {p p2 p3 : Pos} (hc : X.calm = true) (tk : Takes X W) (xC : PySem.W.excIn X.K (CL X.K cc) He.veBase "ValueError.__new__" = true) (gC : X.mg x = some (.ref (CL X.K cc))) (kC : PySem.W.keepIn X.K (.ref (CL X.K cc)) = true)
    (bC : PySem.W.subIn X.K (.ref (CL X.K cc)) (.type "BaseException") = some true) (tC : PySem.W.typeIn X.K (.ref (CL X.K cc)) = some (.type "type")) (hg : Gl X x := by rfl) (hdb : (x == ("__debug__" : Str)) = false := by decide) :
    VS X W A H0 fr (.Raise (some (.Call (.Name x p) [.Constant (.str m) j p2] [] p3)) none pos) (gRaise cc) :=
  ps_imp (ps_raise hc tk (pmk_own PySem.F.excBase_ValueError xC gC kC (raises_own bC tC) hg hdb)) fun Z σ H ⟨env, I, r, q⟩ => q σ I H _ _ r (Ex.refl _) ⟨rfl, rfl⟩
end
end BW
/-! BCore10: loops, changes, defs. -/
namespace BW
open PySem PySem.Spec PyProof.Rows L2
open Evl (Ex Ex.refl Ex.trans Ex.new ex_rd ex_l ex_t)
section
variable {X : Cx} {W : WX} {A H0 : Hp} {fr : Bool} {a b c e tg : Expr} {fa fb fc fi f : F} {pos : Pos} {st : Stmt} {rest : List Stmt} {g g1 g2 : G}
theorem vs_for {ts : List Nat} {t : FT} {body : List Stmt} (hp : PassesOwn (model X.prog X.w) X.A X.env X.xe) (hc : X.calm = true) (hi : VI X W A H0 tg e fi) (hg : VG X A H0 tg ts t) (hb : VSs X W A H0 fr body g) (hs : ∀ x, foldedSetIterable e X.env x = pure x := by intro _; rfl) :
    VS X W A H0 fr (.For tg e body [] pos) (gFor fi t g) := ps_imp (ps_for hp hc hi hg hb hs) fun Z σ H ⟨env, I, r, q⟩ => ⟨env, I, r, by
  unfold gFor at q
  cases hf : fi env with
  | er c p => rw [hf] at q; exact fun cls od I' H' g kk => q σ I' H' cls od (r.grow g) g.i kk
  | no => rw [hf] at q; exact q.elim
  | ok d =>
    rw [hf] at q
    rcases D.lst_or d with ⟨ds, rfl⟩ | hd
    · intro J I1 H1 g1 sv
      have q0 : PostS X.K W A H0 fr I Z (forF t g ds env) := q
      refine for_it sv (fun i σ2 H2 => ∃ env2 I2, Rel X.K A H0 env2 σ2 I2 H2 ∧ Ex I1 I2 ∧ PostS X.K W A H0 fr I2 Z (forF t g (ds.drop i) env2)) ⟨env, I1, r.grow g1, Ex.refl _, PostS.mono g1.i q0⟩ ?_ ?_ ?_
      · exact fun i σ2 H2 _ ⟨env2, I2, r2, e2, _⟩ => e2.trans r2.g.ih
      · intro i x σ2 H2 H3 hi' ⟨env2, I2, r2, e2, q2⟩ y
        obtain ⟨d, I3, e1, g3, k3, _⟩ := yd_grow e2 r2.g.ih y
        have hd : ds.drop i = d :: ds.drop (i + 1) := List.drop_eq_getElem?_toList_append .. |>.trans (by rw [e1]; rfl)
        rw [hd] at q2
        have q3 : PostS X.K W A H0 fr I2 Z (match t d env2 with | .ok e => (match g e with | .nx e => forF t g (ds.drop (i + 1)) e | .ct e => forF t g (ds.drop (i + 1)) e | .bk e => .nx e | r => r) | _ => .no) := q2
        refine ⟨d, env2, I3, r2.grow g3, k3, ?_⟩
        cases ht : t d env2 with
        | er c p => rw [ht] at q3; exact q3.elim
        | no => rw [ht] at q3; exact q3.elim
        | ok env3 =>
          rw [ht] at q3
          refine fun σ3 r3 _ _ => ⟨env3, I3, r3, ?_⟩
          have q4 : PostS X.K W A H0 fr I3 Z (match g env3 with | .nx e => forF t g (ds.drop (i + 1)) e | .ct e => forF t g (ds.drop (i + 1)) e | .bk e => .nx e | r => r) := PostS.mono g3.i q3
          cases hg2 : g env3 with
          | nx n => rw [hg2] at q4; exact fun σ' I' H' r' e' => ⟨n, I', r', (e2.trans g3.i).trans e', q4.mono e'⟩
          | ct n => rw [hg2] at q4; exact fun σ' I' H' r' e' => ⟨n, I', r', (e2.trans g3.i).trans e', q4.mono e'⟩
          | bk n => rw [hg2] at q4; exact q4
          | rt d => rw [hg2] at q4; exact q4
          | er n c p => rw [hg2] at q4; exact q4
          | no => rw [hg2] at q4; exact q4
      · rintro σ2 H2 ⟨env2, I2, r2, e2, q2⟩
        rw [List.drop_length] at q2
        exact q2 σ2 I2 H2 r2 (Ex.refl _)
    · cases d <;> first | exact absurd rfl (hd _) | exact q.elim⟩
theorem vs_while (n : Nat) {body : List Stmt} (hp : PassesOwn (model X.prog X.w) X.A X.env X.xe) (hc : VT X W A H0 c fc) (hb : VSs X W A H0 fr body g) : VS X W A H0 fr (.While c body [] pos) (gWhile n fc g) := ps_imp (ps_while hp hc hb) fun Z σ H ⟨env, I, r, q⟩ => by
  refine ⟨fun m σ2 H2 => ∃ env2 I2, Rel X.K A H0 env2 σ2 I2 H2 ∧ PostS X.K W A H0 fr I2 Z (whF fc g m env2), ⟨n, env, I, r, q⟩, ?_⟩
  rintro m σ2 H2 ⟨env2, I2, r2, q2⟩
  cases m with
  | zero => exact q2.elim
  | succ m =>
    refine ⟨env2, I2, r2, ?_⟩
    unfold whF at q2
    cases hf : fc env2 with
    | er c p => rw [hf] at q2; exact fun cls od I' H' g kk => q2 σ2 I' H' cls od (r2.grow g) g.i kk
    | no => rw [hf] at q2; exact q2.elim
    | ok d =>
      rw [hf] at q2
      cases d with
      | bl b =>
        cases b with
        | true =>
          have q3 : PostS X.K W A H0 fr I2 Z (match g env2 with | .nx e => whF fc g m e | .ct e => whF fc g m e | .bk e => .nx e | r => r) := q2
          refine fun I' H' g' => iteT ⟨fun σ3 H3 => ∃ env3 I3, Rel X.K A H0 env3 σ3 I3 H3 ∧ PostS X.K W A H0 fr I3 Z (whF fc g m env3), fun σ3 H3 w => ⟨m, Nat.lt_succ_self m, w⟩, env2, I', r2.grow g', ?_⟩
          have q4 := PostS.mono g'.i q3
          cases hg2 : g env2 with
          | nx n => rw [hg2] at q4; exact fun σ' I3 H3 r' e' => ⟨n, I3, r', q4.mono e'⟩
          | ct n => rw [hg2] at q4; exact fun σ' I3 H3 r' e' => ⟨n, I3, r', q4.mono e'⟩
          | bk n => rw [hg2] at q4; exact q4
          | rt d => rw [hg2] at q4; exact q4
          | er n c p => rw [hg2] at q4; exact q4
          | no => rw [hg2] at q4; exact q4
        | false => exact fun I' H' g' => iteF (q2 σ2 I' H' (r2.grow g') g'.i)
      | _ => exact q2.elim

/-! ### changes -/
theorem mu_at {K : PySem.W.Frag} {env : En} {i : Nat} {k : List D → SR} {I : Hp} {Z : Ends} (q : PostS K W A H0 fr I Z (match env[i]? with | some (.mu l) => k l | _ => .no)) : ∃ l, env[i]? = some (Sl.mu l) ∧ PostS K W A H0 fr I Z (k l) := by
  cases he : env[i]? with
  | none => rw [he] at q; exact q.elim
  | some s =>
    rw [he] at q
    cases s with
    | mu l => exact ⟨l, rfl, q⟩
    | _ => exact q.elim
/-- a method that changes a list, one argument -/
def MutOp (r : V → List V → Hp → VK → Prop) (K : PySem.W.Frag) (k : List D → D → Option (List D)) : Prop := ∀ (a : Addr) (vs : List V) (v : V) (l m : List D) (d : D) (I H : Hp) (Q : VK), H a = some (.lst vs) → RdA K I vs l → Ex I H → Rd K I v d → k l d = some m → (∀ ws, RdA K I ws m → Q .non (upd H a (.lst ws))) → r (.ref a) [v] H Q
theorem mo_app {K : PySem.W.Frag} : MutOp rAppend K kApp := by
  intro a vs v l m d I H Q h1 h2 ie h3 h4 q
  unfold kApp at h4
  by_cases hz : l.length < sizeLine
  · rw [if_pos hz] at h4
    cases h4
    exact ⟨a, vs, v, rfl, rfl, h1, by rw [h2.length]; exact hz, q _ (h2.snoc h3)⟩
  · rw [if_neg hz] at h4
    cases h4
theorem mo_ext {K : PySem.W.Frag} : MutOp rExtend K kExt := by
  intro a vs v l m d I H Q h1 h2 ie h3 h4 q
  unfold kExt at h4
  cases d <;> try (cases h4; done)
  rename_i ys
  obtain ⟨b, us, rfl, k1, k2⟩ := h3.lst_inv
  have h5 : (if l.length + ys.length ≤ sizeLine then some (l ++ ys) else none) = some m := h4
  by_cases hz : l.length + ys.length ≤ sizeLine
  · rw [if_pos hz] at h5
    cases h5
    exact ⟨a, b, vs, us, rfl, rfl, h1, ie _ _ k1, by rw [h2.length, k2.length]; exact hz, q _ (h2.append k2)⟩
  · rw [if_neg hz] at h5
    cases h5
theorem RdA.dropLast {K : PySem.W.Frag} {I : Hp} {vs : List V} {ds : List D} (h : RdA K I vs ds) : RdA K I vs.dropLast ds.dropLast := by
  rw [List.dropLast_eq_take, List.dropLast_eq_take, h.length]
  exact h.take _
theorem ty_lst {K : PySem.W.Frag} {H : Hp} {p : Addr} {xs : List V} (h : H p = some (.lst xs)) : tyV K "list" (.ref p) H := .inl ⟨rfl, _, .inl (.inl h)⟩
theorem vs_mut (i : Nat) {x name : Str} {id : String} {r : V → List V → Hp → VK → Prop} {k : List D → D → Option (List D)} {p apos : Pos} (slot : Slot "list" name id) (hty : typeOf (.builtin id) = pure (.type "method_descriptor")) (hm : MtR X id r) (hk : MutOp r X.K k) (he : VE X W A H0 e f)
    (hN : X.N[i]? = some x := by rfl) (hv : Vis X.env.scope x := by first | exact Or.inl rfl | exact Or.inr (Or.inl rfl) | exact Or.inr (Or.inr rfl)) (hd : (x == ("__debug__" : Str)) = false := by decide) (hcd : (x == ("__classdict__" : Str)) = false := by decide)
    (hs1 : starEach (e :: []) X.env = (false, eval e X.env) :: starEach [] X.env := by rfl)
    (hbase : attributeBase (.Name x p) name X.env (eval (.Name x p) X.env) = eval (.Name x p) X.env := by rfl)
    {cpos : Pos} (hfew : ((backTo cpos (starEach (e :: []) X.env)).all (fun x => !x.1) && (backToKw cpos (keywordEach [] X.env)).all (fun x => x.1.isSome) && decide ((e :: []).length + ([] : List Keyword).length + (if ([] : List Keyword).isEmpty then 0 else 1) < 30)) = true := by rfl)
    (hline : (apos.endLine == cpos.line) = true := by rfl) (hplain : (backTo cpos (starEach [] X.env)).any (·.1) = false := by rfl)
    (hs : swapsWith (.Call (.Attribute (.Name x p) name apos) [e] [] cpos) none pos.line X.env = pure false := by rfl) :
    VS X W A H0 fr (.Expr (.Call (.Attribute (.Name x p) name apos) [e] [] cpos) pos) (gMut i f k) :=
  ps_imp (ps_expr (pe_bm PySem.F.plainAttrs_list slot hty hm (pe_var hN hv hd hcd) (pa_cons he pa_nil hs1) hbase hfew hline hs1 hplain) hs) fun Z σ H ⟨env, I, rl, q⟩ => by
    obtain ⟨l, he, q1⟩ := mu_at q
    obtain ⟨ad, vs, h1, h2, h3, h4, h5⟩ := rl.mu i l he
    refine ⟨.ref ad, h1, ty_lst h2, env, I, rl, of_run rl q1 fun d v I' H' hq r' g' kk q' => ?_⟩
    cases hm2 : k l d with
    | none => rw [hm2] at q'; exact q'.elim
    | some m =>
      rw [hm2] at q'
      exact hk ad vs v l m d I' H' _ (g'.h _ _ h2) (h5.mono g'.i) g'.ih kk hm2 fun ws hw => q' σ I' _ (r'.chg he h1 hw) (Ex.refl _)
theorem vs_aug (i : Nat) {x : Str} {p : Pos} {op : Operator} {fo : Int → Int → Int} (hN : X.N.Nodup) (hp : PIp X op (ipI fo)) (he : VE X W A H0 e f) (hi : X.N[i]? = some x := by rfl) (hx : Loc X.env.scope x := by first | exact .inl rfl | exact .inr rfl) (hf : X.fn x = true ∨ X.env.scope.names.lookup x = some .local := by first | exact .inl rfl | exact .inr rfl | assumption) :
    VS X W A H0 fr (.AugAssign (.Name x p) op e pos) (gAug i f fo) :=
  ps_imp (ps_aug hN hi hx he hp hf) fun Z σ H ⟨env, I, rl, q⟩ => by
    have q0 : PostS X.K W A H0 fr I Z (match env[i]? with | some (.im (.int x)) => .of env (f env) (fun | .int y => .nx (env.set i (.im (.int (fo x y)))) | _ => .no) | _ => .no) := q
    cases he : env[i]? with
    | none => rw [he] at q0; exact q0.elim
    | some s =>
      rw [he] at q0
      cases s <;> try (exact q0.elim)
      rename_i d
      cases d <;> try (exact q0.elim)
      rename_i xi
      obtain ⟨v, h1, h2⟩ := rl.im i _ he
      rw [h2.int_inv] at h1
      refine ⟨.int xi, h1, env, I, rl, of_run rl q0 fun d v2 I' H' hq r' g' kk q' => ?_⟩
      cases d <;> try (exact q'.elim)
      rename_i yi
      rw [kk.int_inv]
      exact ⟨xi, yi, rfl, rfl, q' _ I' H' (r'.set_im .int) (Ex.refl _)⟩
theorem vs_pop (j i : Nat) {x y : Str} {p py apos cpos : Pos} (hNd : X.N.Nodup) (hN : X.N[i]? = some x := by rfl) (hv : Vis X.env.scope x := by first | exact Or.inl rfl | exact Or.inr (Or.inl rfl) | exact Or.inr (Or.inr rfl)) (hd : (x == ("__debug__" : Str)) = false := by decide) (hcd : (x == ("__classdict__" : Str)) = false := by decide)
    (hbase : attributeBase (.Name x p) "pop" X.env (eval (.Name x p) X.env) = eval (.Name x p) X.env := by rfl) (hline : (apos.endLine == cpos.line) = true := by rfl)
    (hi : X.N[j]? = some y := by rfl) (hx : Loc X.env.scope y := by first | exact .inl rfl | exact .inr rfl) (hs : swapsWith (.Call (.Attribute (.Name x p) "pop" apos) [] [] cpos) (some (.Name y py)) pos.line X.env = pure false := by rfl) (hf : X.fn y = true ∨ X.env.scope.names.lookup y = some .local := by first | exact .inl rfl | exact .inr rfl | assumption) :
    VS X W A H0 fr (.Assign [.Name y py] (.Call (.Attribute (.Name x p) "pop" apos) [] [] cpos) pos) (gPop j i) :=
  ps_imp (ps_set hNd hi hx (pe_bm0 PySem.F.plainAttrs_list PySem.F.slot_list_pop PySem.F.type_list_pop mt_pop (pe_var hN hv hd hcd) hbase hline) hs hf) fun Z σ H ⟨env, I, rl, q⟩ => by
    obtain ⟨l, he, q1⟩ := mu_at q
    obtain ⟨ad, vs, h1, h2, h3, h4, h5⟩ := rl.mu i l he
    refine ⟨.ref ad, h1, ty_lst h2, ?_⟩
    cases hl : l[l.length - 1]? with
    | none => rw [hl] at q1; exact q1.elim
    | some d =>
      rw [hl] at q1
      obtain ⟨v, k1, k2⟩ := h5.get hl
      exact ⟨ad, vs, v, rfl, rfl, h2, by rw [h5.length]; exact k1, q1 _ I _ ((rl.chg he h1 h5.dropLast).set_im k2) (Ex.refl _)⟩
/-! ### name = [.. for ..] -/
theorem vs_setLcI (i : Nat) {y : Str} {py : Pos} {elt iter : Expr} {ifs : List Expr} {scope : Scope} {own : List (Str × Nat)} {lpos : Pos} {ft fe : F} {t : FT} {ts : List Nat} (hc : X.calm = true) (hN : X.N.Nodup) (hi : VI X W A H0 tg iter fi) (ok : BlkOk X.N X.env.scope scope own)
    (hg : ∀ (s : Shared) (H : Hp) (C : Addr) (cl : List (Str × Addr)) (fp : List Addr), VG (X.blk s H scope (compEnvC scope cl C X.env) fp) A H0 tg ts t) (ht : ∀ (s : Shared) (H : Hp) (C : Addr) (cl : List (Str × Addr)) (fp : List Addr), VTs (X.blk s H scope (compEnvC scope cl C X.env) fp) WF A H0 ifs ft)
    (he : ∀ (s : Shared) (H : Hp) (C : Addr) (cl : List (Str × Addr)) (fp : List Addr), VE (X.blk s H scope (compEnvC scope cl C X.env) fp) WF A H0 elt fe) (hts : ts.all (fun j => (own.map (·.2)).contains j) = true := by rfl)
    (hsw : swapsWith (.ListComp elt [⟨tg, iter, ifs, 0⟩] scope lpos) (some (.Name y py)) pos.line X.env = pure true := by exact sw_true rfl rfl rfl (by decide +kernel)) (hy : X.N[i]? = some y := by rfl) (hyl : X.env.scope.names.lookup y = some .local := by rfl) (hs : ∀ x, foldedSetIterable iter X.env x = pure x := by intro _; rfl) :
    VS X W A H0 fr (.Assign [.Name y py] (.ListComp elt [⟨tg, iter, ifs, 0⟩] scope lpos) pos) (gSet i (fLs (fLc fi t ft fe (own.map (·.2))))) :=
  ps_imp (ps_setLc (g := rdG X.K A H0 ts t) (tt := rdT X.K WF A H0 ft) (te := rdE X.K WF A H0 fe) hc hN hy hyl hsw hi ok hg ht he hs) fun Z σ H ⟨env, I, r, q⟩ => lc_run hts ⟨env, I, r, by
    have q0 : PostS X.K W A H0 fr I Z (.of env ((fLc fi t ft fe (own.map (·.2)) env).bind lsD) fun d => .nx (env.set i (.im d))) := q
    cases hf : fLc fi t ft fe (own.map (·.2)) env with
    | ok d =>
      rw [hf] at q0
      rcases D.lst_or d with ⟨l, rfl⟩ | hd
      · exact fun p vs I' H' g h0 hi' h1 h2 => q0 _ (upd I' p (.lst vs)) H' ((r.grow (g.add h0 hi' h1)).set_im (.lst upd_same (h2.mono (Ex.new hi')))) (g.add h0 hi' h1).i
      · cases d <;> first | exact absurd rfl (hd _) | exact q0.elim
    | er c p => rw [hf] at q0; exact fun cls od I' H' g kk => q0 σ I' H' cls od (r.grow g) g.i kk
    | no => rw [hf] at q0; exact q0.elim⟩
end

/-! ### defs -/
/-- the environment at a def's start: strict and loose arguments, the other names unknown -/
def args0 : List Bool → List D → En
  | true :: fl, d :: ds => .im d :: args0 fl ds
  | false :: fl, d :: ds => .bo d :: args0 fl ds
  | _, _ => []
def env0 (n : Nat) (fl : List Bool) (ds : List D) : En := args0 fl ds ++ List.replicate (n - fl.length) .no
/-- what a def hands back -/
def outD (r : SR) : R D := match r with
  | .rt d => .ok d
  | .nx _ => .ok .non
  | .er _ c p => .er c p
  | _ => .no
/-- .. that hands back a new list -/
def outN (r : SR) : R D := match r with
  | .rt d => .ok d
  | .er _ c p => .er c p
  | _ => .no
def defD (n : Nat) (fl : List Bool) (g : G) : List D → R D := fun ds => if ds.length = fl.length then outD (g (env0 n fl ds)) else .no
def defN (n : Nat) (fl : List Bool) (g : G) : List D → R D := fun ds => if ds.length = fl.length then outN (g (env0 n fl ds)) else .no
section
variable {K : PySem.W.Frag} {I H : Hp}
theorem args0_len : ∀ {fl : List Bool} {vs : List V} {ds : List D}, ArgsOk K I H fl vs ds → (args0 fl ds).length = fl.length
  | _, _, _, .nil => rfl
  | _, _, _, .st h q => congrArg (· + 1) (args0_len q)
  | _, _, _, .lo h q => congrArg (· + 1) (args0_len q)
theorem args0_get : ∀ {fl : List Bool} {vs : List V} {ds : List D}, ArgsOk K I H fl vs ds → ∀ {i : Nat} {s : Sl}, (args0 fl ds)[i]? = some s → ∃ v, vs[i]? = some v ∧ ((∃ d, s = .im d ∧ Rd K I v d) ∨ ∃ d, s = .bo d ∧ Rd K H v d)
  | _, _, _, .nil, i, s, e => by simp [args0] at e
  | _, _, _, .st h q, 0, s, e => by
    have e' := Option.some.inj e
    exact ⟨_, rfl, .inl ⟨_, e'.symm, h⟩⟩
  | _, _, _, .lo h q, 0, s, e => by
    have e' := Option.some.inj e
    exact ⟨_, rfl, .inr ⟨_, e'.symm, h⟩⟩
  | _, _, _, .st h q, i + 1, s, e => args0_get q (i := i) e
  | _, _, _, .lo h q, i + 1, s, e => args0_get q (i := i) e
theorem rel0 {N : List Str} {fl : List Bool} {vs : List V} {ds : List D} (ie : Ex I H) (h : ArgsOk K I H fl vs ds) (hn : fl.length ≤ N.length) : Rel K I H (env0 N.length fl ds) (L2.start N vs) I H := by
  have hl := args0_len h
  have hv := h.length
  have get : ∀ (i : Nat) (s : Sl), (env0 N.length fl ds)[i]? = some s → s = .no ∨ ∃ v, (L2.start N vs)[i]? = some (some v) ∧ ((∃ d, s = .im d ∧ Rd K I v d) ∨ ∃ d, s = .bo d ∧ Rd K H v d) := fun i s e => by
    unfold env0 at e
    by_cases hi : i < fl.length
    · rw [List.getElem?_append_left (by rw [hl]; exact hi)] at e
      obtain ⟨v, h1, h2⟩ := args0_get h e
      refine .inr ⟨v, ?_, h2⟩
      unfold L2.start
      rw [List.getElem?_append_left (by rw [List.length_map, hv]; exact hi), List.getElem?_map, h1]
      rfl
    · rw [List.getElem?_append_right (by rw [hl]; omega), List.getElem?_replicate] at e
      split at e
      · exact .inl (Option.some.inj e).symm
      · cases e
  refine ⟨Grow.refl ie, ?_, fun i d e => ?_, fun i l e => ?_, fun i d e => ?_, fun i j l m a e1 e2 _ _ => ?_, fun i ks l e => ?_, fun i j ks ls l m a e1 e2 _ _ => ?_, fun i d e => ?_, DkI.none fun i o d e => ?_⟩
  · unfold L2.start env0
    rw [List.length_append, List.length_append, List.length_map, List.length_replicate, List.length_replicate, hl, hv]
  · rcases get i _ e with z | ⟨v, h1, ⟨d', z, h2⟩ | ⟨d', z, h2⟩⟩
    · cases z
    · cases z; exact ⟨v, h1, h2⟩
    · cases z
  · rcases get i _ e with z | ⟨v, h1, ⟨d', z, h2⟩ | ⟨d', z, h2⟩⟩ <;> cases z
  · rcases get i _ e with z | ⟨v, h1, ⟨d', z, h2⟩ | ⟨d', z, h2⟩⟩
    · cases z
    · cases z
    · cases z; exact ⟨v, h1, h2⟩
  · rcases get i _ e1 with z | ⟨v, h1, ⟨d', z, h2⟩ | ⟨d', z, h2⟩⟩ <;> cases z
  · rcases get i _ e with z | ⟨v, h1, ⟨d', z, h2⟩ | ⟨d', z, h2⟩⟩ <;> cases z
  · rcases get i _ e1 with z | ⟨v, h1, ⟨d', z, h2⟩ | ⟨d', z, h2⟩⟩ <;> cases z
  · rcases get i _ e with z | ⟨v, h1, ⟨d', z, h2⟩ | ⟨d', z, h2⟩⟩ <;> cases z
  · rcases get i _ e with z | ⟨v, h1, ⟨d', z, h2⟩ | ⟨d', z, h2⟩⟩ <;> cases z
end
section
variable {P : Program} {w : World} {K : PySem.W.Frag} {mg : Str → Option Value} {base : Heap}
/-- a def as the head tells it, no defaults -/
abbrev Fn (K : PySem.W.Frag) (x qual : Str) (st : Stmt) (f : Addr) (fd : FuncData) : Prop := FunD K x qual (defArgs st) (defBody st) (defScope st) [] [] f fd
/-- where a def's body stands -/
abbrev Cb (P : Program) (w : World) (K : PySem.W.Frag) (mg : Str → Option Value) (base : Heap) (N : List Str) (qual : Str) (st : Stmt) (f : Addr) (cdv : Value) (A : Around) (outer : List PySem.Env) (s : Shared) (H : Hp) (E : XK) : Cx := cxOf (L2.CX P w) P w K mg base N qual (defScope st) f cdv A outer s H E
abbrev WB (E : XK) : WX := fun cls d _ H' => E cls d H'
theorem spF_len {fl : List Bool} {m : List D → R D} {ps : List Str} (h : fl.length = ps.length) : ∀ vs H Q E, spF K fl m vs H Q E → vs.length = ps.length := fun vs H Q E ⟨_, _, _, a, _⟩ => a.length.trans h
theorem spN_len {fl : List Bool} {m : List D → R D} {ps : List Str} (h : fl.length = ps.length) : ∀ vs H Q E, spN K fl m vs H Q E → vs.length = ps.length := fun vs H Q E ⟨_, _, _, a, _⟩ => a.length.trans h
/-- a def keeps the promise that its body tells -/
theorem fn_ok {x qual : Str} {st : Stmt} {f : Addr} {fd : FuncData} {N ps : List Str} {k : Nat} {fl : List Bool} {g : G} (F0 : Fn K x qual st f fd) (S : FnScope N ps (defScope st)) (hfl : fl.length = ps.length := by rfl) (hn : fl.length ≤ N.length := by decide)
    (body : ∀ (cdv : Value) (A : Around) (outer : List PySem.Env) (s : Shared) (H I : Hp) (E : XK), Room k (A.deeper (envOfC qual (defScope st) s.heap.objs.size f cdv)) → Takes (Cb P w K mg base N qual st f cdv A outer s H E) (WB E) →
      PassesOwn (model P w) (A.deeper (envOfC qual (defScope st) s.heap.objs.size f cdv)) (envOfC qual (defScope st) s.heap.objs.size f cdv) (Cb P w K mg base N qual st f cdv A outer s H E).xe → VSs (Cb P w K mg base N qual st f cdv A outer s H E) (WB E) I H false (defBody st) g) :
    FnOk P w K mg base (L2.CX P w) (k + 1) f fd ps (spF K fl (defD N.length fl g)) := by
  refine F0.ok S (spF_len hfl) fun cdv A outer s H vs Q E hr h => ?_
  obtain ⟨ds, I, ie, ha, q⟩ := h
  refine ⟨_, body cdv A outer s H I E hr (takes_of rfl rfl rfl rfl) (passes_of rfl), env0 N.length fl ds, I, rel0 ie ha hn, ?_⟩
  have hl : ds.length = fl.length := argsLen ha
  have q1 : PostE K (WB E) [] I H (if ds.length = fl.length then outD (g (env0 N.length fl ds)) else .no) Q := q
  rw [if_pos hl] at q1
  cases hg : g (env0 N.length fl ds) with
  | nx e => rw [hg] at q1; exact fun σ' I' H' r _ => q1 .non I' H' r.g .non
  | rt d => rw [hg] at q1; exact q1
  | er e c p => rw [hg] at q1; exact fun σ' I' H' cls od r _ kk => q1 cls od I' H' r.g kk
  | bk e => rw [hg] at q1; exact q1.elim
  | ct e => rw [hg] at q1; exact q1.elim
  | no => rw [hg] at q1; exact q1.elim
theorem fn_new {x qual : Str} {st : Stmt} {f : Addr} {fd : FuncData} {N ps : List Str} {k : Nat} {fl : List Bool} {g : G} (F0 : Fn K x qual st f fd) (S : FnScope N ps (defScope st)) (hfl : fl.length = ps.length := by rfl) (hn : fl.length ≤ N.length := by decide)
    (body : ∀ (cdv : Value) (A : Around) (outer : List PySem.Env) (s : Shared) (H I : Hp) (E : XK), Room k (A.deeper (envOfC qual (defScope st) s.heap.objs.size f cdv)) → Takes (Cb P w K mg base N qual st f cdv A outer s H E) (WB E) →
      PassesOwn (model P w) (A.deeper (envOfC qual (defScope st) s.heap.objs.size f cdv)) (envOfC qual (defScope st) s.heap.objs.size f cdv) (Cb P w K mg base N qual st f cdv A outer s H E).xe → VSs (Cb P w K mg base N qual st f cdv A outer s H E) (WB E) I H true (defBody st) g) :
    FnOk P w K mg base (L2.CX P w) (k + 1) f fd ps (spN K fl (defN N.length fl g)) := by
  refine F0.ok S (spN_len hfl) fun cdv A outer s H vs Q E hr h => ?_
  obtain ⟨ds, I, ie, ha, q⟩ := h
  refine ⟨_, body cdv A outer s H I E hr (takes_of rfl rfl rfl rfl) (passes_of rfl), env0 N.length fl ds, I, rel0 ie ha hn, ?_⟩
  have hl : ds.length = fl.length := argsLen ha
  have q1 : PostF K (WB E) [] I H (if ds.length = fl.length then outN (g (env0 N.length fl ds)) else .no) Q := q
  rw [if_pos hl] at q1
  cases hg : g (env0 N.length fl ds) with
  | nx e => rw [hg] at q1; exact q1.elim
  | rt d =>
    rw [hg] at q1
    rcases D.lst_or d with ⟨l, rfl⟩ | hd
    · exact fun p vs I' H' gg h0 h1 h2 h3 => q1 p vs I' H' gg h0 h1 h2 h3
    · cases d <;> first | exact absurd rfl (hd _) | exact q1.elim
  | er e c p => rw [hg] at q1; exact fun σ' I' H' cls od r _ kk => q1 cls od I' H' r.g kk
  | bk e => rw [hg] at q1; exact q1.elim
  | ct e => rw [hg] at q1; exact q1.elim
  | no => rw [hg] at q1; exact q1.elim
end
end BW
/-! BCore11: more of lists; calls by name. -/
namespace BW
open PySem PySem.Spec PyProof.Rows L2
open Evl (Ex Ex.refl Ex.trans Ex.new ex_rd ex_l ex_t)
/-- a name's list, changing or not -/
def fV (i : Nat) : F := fun env => match env[i]? with
  | some (.mu l) => .ok (.lst l)
  | some (.im (.lst l)) => .ok (.lst l)
  | _ => .no
def cutL {α : Type} (xs : List α) (lo hi : Option Int) : List α := (xs.drop (HT.sIx xs.length 0 lo)).take (HT.sIx xs.length xs.length hi - HT.sIx xs.length 0 lo)
def sliceD : D → Option Int → Option Int → R D
  | .lst l, lo, hi => .ok (.lst (cutL l lo hi))
  | .scr l, lo, hi => .ok (.lst ((cutL l lo hi).map D.int))
  | .tup l, lo, hi => .ok (.tup (cutL l lo hi))
  | .str z, lo, hi => if z.length ≤ sizeLine then .ok (.str (cutS z lo hi)) else .no
  | _, _, _ => .no
abbrev FO := En → R (Option Int)
def oN : FO := fun _ => .ok none
def oS (f : F) : FO := fun env => (f env).bind fun
  | .int i => .ok (some i)
  | _ => .no
def fSl (f : F) (lo hi : FO) : F := fun env => (f env).bind fun d => (lo env).bind fun l => (hi env).bind fun h => sliceD d l h
def catD : D → D → R D
  | .lst x, .lst y => if x.length + y.length ≤ sizeLine then .ok (.lst (x ++ y)) else .no
  | _, _ => .no
def repD : D → D → R D
  | .lst x, .int k => if -(2 ^ 63) ≤ k ∧ k < 2 ^ 63 ∧ x.length * k.toNat ≤ sizeLine then .ok (.lst (List.replicate k.toNat x).flatten) else .no
  | _, _ => .no
/-- what a builtin type a value is of -/
def tyn : D → Option String
  | .non => some "NoneType"
  | .bl _ => some "bool"
  | .int _ => some "int"
  | .str _ => some "str"
  | .lst _ => some "list"
  | .scr _ => some "list"
  | .tup _ => some "tuple"
  | _ => none
def isiD (T : String) (d : D) : R D := match tyn d with
  | some t => (match kitB t T with
    | some b => .ok (.bl b)
    | none => .no)
  | none => .no
def truD : D → R D
  | .non => .ok (.bl false)
  | .bl b => .ok (.bl b)
  | .int i => .ok (.bl (i != 0))
  | .lst l => .ok (.bl (!l.isEmpty))
  | .tup l => .ok (.bl (!l.isEmpty))
  | .scr l => .ok (.bl (!l.isEmpty))
  | _ => .no
section
variable {X : Cx} {W : WX} {A H0 : Hp} {fr : Bool} {a b c e tg : Expr} {fa fb fc fi f : F} {pos : Pos}
theorem vl_var (i : Nat) {x : Str} (hN : X.N[i]? = some x := by rfl) (hv : Vis X.env.scope x := by first | exact Or.inl rfl | exact Or.inr (Or.inl rfl) | exact Or.inr (Or.inr rfl)) (hd : (x == ("__debug__" : Str)) = false := by decide)
    (hcd : (x == ("__classdict__" : Str)) = false := by decide) : VL X W A H0 (.Name x pos) (fV i) := pe_imp (pe_var hN hv hd hcd) fun σ H Q ⟨env, I, r, q⟩ => by
  have q1 : PostC X.K W σ I H (match env[i]? with | some (.mu l) => .ok (.lst l) | some (.im (.lst l)) => .ok (.lst l) | _ => .no) Q := q
  cases he : env[i]? with
  | none => rw [he] at q1; exact q1.elim
  | some s =>
    rw [he] at q1
    cases s with
    | mu l =>
      obtain ⟨a, vs, h1, h2, h3, h4, h5⟩ := r.mu i l he
      exact ⟨.ref a, h1, q1 a vs I H (Grow.refl r.g.ih) h2 h5⟩
    | im d =>
      cases d <;> try (exact q1.elim)
      obtain ⟨v, h1, h2⟩ := r.im i _ he
      obtain ⟨a, vs, rfl, k1, k2⟩ := h2.lst_inv
      exact ⟨.ref a, h1, q1 a vs I H (Grow.refl r.g.ih) (r.g.ih _ _ k1) k2⟩
    | _ => exact q1.elim
/-- a list's content first, then a value: what follows -/
theorem con_run {K : PySem.W.Frag} {σ : L2.St} {I H : Hp} {k : D → R D} {Q Q' : VK} {r : R D} (q : PostF K W σ I H ((r.bind lsD).bind k) Q) (h : ∀ l p vs I' H', Grow I H I' H' → H' p = some (.lst vs) → RdA K I' vs l → PostF K W σ I H (k (.lst l)) Q → Q' (.ref p) H') : PostC K W σ I H r Q' := by
  cases r with
  | er c p => exact q
  | no => exact q.elim
  | ok d =>
    rcases D.lst_or d with ⟨l, rfl⟩ | hd
    · exact fun p vs I' H' g h1 h2 => h l p vs I' H' g h1 h2 q
    · cases d <;> first | exact absurd rfl (hd _) | exact q.elim
/-- two contents, a new list -/
theorem vf_cat (ha : VL X W A H0 a fa) (hb : VL X W A H0 b fb) : VF X W A H0 (.BinOp a .Add b pos) (f2 catD (fLs fa) (fLs fb)) := pe_imp (pe_op op_cat ha hb) fun σ H Q ⟨env, I, rl, q⟩ => ⟨env, I, rl, con_run (k := fun x => (fLs fb env).bind fun y => catD x y) q fun l p vs I1 H1 g1 h1 h2 q2 => ⟨env, I1, rl.grow g1, by
  have q3 : PostF X.K W σ I H (((fb env).bind lsD).bind fun y => catD (.lst l) y) Q := q2
  cases hs : fb env with
  | er c p => rw [hs] at q3; exact fun cls od I2 H2 g2 k => q3 cls od I2 H2 (g1.trans g2) k
  | no => rw [hs] at q3; exact q3.elim
  | ok dy =>
    rw [hs] at q3
    rcases D.lst_or dy with ⟨m, rfl⟩ | hd
    · intro p2 ws I2 H2 g2 h3 h4
      have q4 : PostF X.K W σ I H (if l.length + m.length ≤ sizeLine then .ok (.lst (l ++ m)) else .no) Q := q3
      by_cases hz : l.length + m.length ≤ sizeLine
      · rw [if_pos hz] at q4
        refine ⟨p, p2, vs, ws, rfl, rfl, g2.h _ _ h1, h3, by rw [h2.length, h4.length]; exact hz, fun n hn => ?_⟩
        have i0 := Evl.fresh_back g2.ih hn
        exact q4 n _ I2 _ ((g1.trans g2).trans (Grow.hid g2.ih (Ex.new hn))) (Evl.fresh_back (g1.trans g2).h hn) i0 upd_same ((h2.mono g2.i).append h4)
      · rw [if_neg hz] at q4
        exact q4.elim
    · cases dy <;> first | exact absurd rfl (hd _) | exact q3.elim⟩⟩
/-- a content so many times, a new list -/
theorem vf_rep (ha : VL X W A H0 a fa) (hb : VE X W A H0 b fb) : VF X W A H0 (.BinOp a .Mult b pos) (f2 repD (fLs fa) fb) := pe_imp (pe_op op_rep ha hb) fun σ H Q ⟨env, I, rl, q⟩ => ⟨env, I, rl, con_run (k := fun x => (fb env).bind fun y => repD x y) q fun l p vs I1 H1 g1 h1 h2 q2 => ⟨env, I1, rl.grow g1, by
  have q3 : PostF X.K W σ I H ((fb env).bind fun y => repD (.lst l) y) Q := q2
  cases hs : fb env with
  | er c p => rw [hs] at q3; exact fun cls od I2 H2 g2 k => q3 cls od I2 H2 (g1.trans g2) k
  | no => rw [hs] at q3; exact q3.elim
  | ok dy =>
    rw [hs] at q3
    cases dy <;> try (exact q3.elim)
    rename_i k
    intro v I2 H2 g2 h4
    rw [h4.int_inv]
    have q4 : PostF X.K W σ I H (if -(2 ^ 63) ≤ k ∧ k < 2 ^ 63 ∧ l.length * k.toNat ≤ sizeLine then .ok (.lst (List.replicate k.toNat l).flatten) else .no) Q := q3
    by_cases hz : -(2 ^ 63) ≤ k ∧ k < 2 ^ 63 ∧ l.length * k.toNat ≤ sizeLine
    · rw [if_pos hz] at q4
      refine ⟨p, k, vs, rfl, rfl, g2.h _ _ h1, hz.1, hz.2.1, by rw [h2.length]; exact hz.2.2, fun n hn => ?_⟩
      have i0 := Evl.fresh_back g2.ih hn
      exact q4 n _ I2 _ ((g1.trans g2).trans (Grow.hid g2.ih (Ex.new hn))) (Evl.fresh_back (g1.trans g2).h hn) i0 upd_same ((h2.mono g2.i).rep _)
    · rw [if_neg hz] at q4
      exact q4.elim⟩⟩
theorem gcf_list {K : PySem.W.Frag} : GCF K (fun xs H Q => ∃ p ys, xs = [.ref p] ∧ (SqL K H p ys ∨ SqT K H p ys) ∧ ∀ l, H l = none → Q (.ref l) (upd H l (.lst ys))) [true] listD := by
  intro vs ds d I H Q ih ha e
  obtain ⟨x, rfl⟩ := one_of (argsLen ha)
  obtain ⟨v, rfl, hv⟩ := args1s ha
  cases x <;> try (cases e; done)
  · obtain ⟨a, us, rfl, h1, h2⟩ := hv.lst_inv
    exact ⟨_, (ok_inj e).symm, fun q => ⟨a, us, rfl, .inl (.inl (.inl (ih _ _ h1))), fun n hn => q n us I _ (Grow.hid ih (Ex.new hn)) hn (Evl.fresh_back ih hn) upd_same h2⟩⟩
  · obtain ⟨a, us, rfl, h1, h2⟩ := hv.tup_inv
    exact ⟨_, (ok_inj e).symm, fun q => ⟨a, us, rfl, .inr (h1.mono ih).sq, fun n hn => q n us I _ (Grow.hid ih (Ex.new hn)) hn (Evl.fresh_back ih hn) upd_same h2⟩⟩
  · obtain ⟨a, rfl, h1⟩ := hv.scr_inv
    exact ⟨_, (ok_inj e).symm, fun q => ⟨a, _, rfl, .inl (ex_l ih h1), fun n hn => q n _ I _ (Grow.hid ih (Ex.new hn)) hn (Evl.fresh_back ih hn) upd_same RdA.ints⟩⟩
section
variable {x : Str} {p : Pos}
/-- list(content), tuple(content) -/
theorem pa_con (ha : VL X W A H0 a fa) (hs : starEach (a :: []) X.env = (false, eval a X.env) :: starEach [] X.env := by rfl) : PA X [a] (tCons (rdC X.K W A H0 fa) tNil) := pa_cons ha pa_nil hs
def tplD : D → R D
  | .lst l => .ok (.tup l)
  | _ => .no
theorem ve_tupleC (hm : X.mg "tuple" = none) (ha : VL X W A H0 a fa) (hg : Gl X "tuple" := by rfl) (hs : starEach (a :: []) X.env = (false, eval a X.env) :: starEach [] X.env := by rfl) (hpl : (backTo pos (starEach [] X.env)).any (·.1) = false := by rfl) : VE X W A H0 (.Call (.Name "tuple" p) [a] [] pos) (f1 tplD fa) :=
  pe_imp (pe_callTy call_tupN hg hm (by decide +kernel) (pa_con ha hs) (by decide) (by decide) hs hpl) fun σ H Q ⟨env, I, rl, q⟩ => ⟨env, I, rl, by
    have q0 : PostE X.K W σ I H ((fa env).bind tplD) Q := q
    cases hf : fa env with
    | er c p => rw [hf] at q0; exact q0
    | no => rw [hf] at q0; exact q0
    | ok d =>
      rw [hf] at q0
      rcases D.lst_or d with ⟨l, rfl⟩ | hd
      · exact fun p vs I1 H1 g1 h1 h2 => ⟨p, vs, rfl, .inl ⟨.inl (.inl h1), fun n ob hn hb => q0 (.ref n) _ _ (g1.trans (Grow.push g1.ih hn)) (.tup (.new hb) (h2.mono (Ex.new (Evl.fresh_back g1.ih hn))))⟩⟩
      · cases d <;> first | exact absurd rfl (hd _) | exact q0.elim⟩
end

/-! ### slices -/
/-! ### list(range(..)) -/
/-! ### isinstance, truth -/
theorem tyn_x {K : PySem.W.Frag} {H : Hp} {v : V} {d : D} {t : String} (h : Rd K H v d) (e : tyn d = some t) : (∃ o, v = .ref o ∧ ∃ ns, d = .scr ns) ∨ TyX K H v (.type t) := by
  cases h <;> try (cases e; done)
  · cases e; exact .inr (.base .non)
  · cases e; exact .inr (.base (.bl _))
  · cases e; exact .inr (.base (.int _))
  · cases e; exact .inr (.base (.str _))
  · cases e; exact .inr (.base (.lst (by assumption)))
  · cases e; rename_i h _; obtain ⟨ob, _, k⟩ := h; exact .inr (.fTuple k)
  · exact .inl ⟨_, rfl, _, rfl⟩
theorem ve_isi (T : String) {p q : Pos} (hm : X.mg "isinstance" = none) (hT : X.mg (Str.ofString T) = none) (hb : bootBuiltins (Str.ofString T) = some (.type T)) (ha : VB X W A H0 a fa) (hnT : Str.ofString T ≠ "__name__") (hg : Gl X "isinstance" := by rfl) (hg2 : Gl X (Str.ofString T) := by rfl) (hdT : (Str.ofString T == ("__debug__" : Str)) = false := by decide)
    (hs : starEach (a :: [.Name (Str.ofString T) q]) X.env = (false, eval a X.env) :: starEach [.Name (Str.ofString T) q] X.env := by rfl) (hs2 : starEach (.Name (Str.ofString T) q :: []) X.env = (false, eval (.Name (Str.ofString T) q) X.env) :: starEach [] X.env := by rfl) (hpl : (backTo pos (starEach [.Name (Str.ofString T) q] X.env)).any (·.1) = false := by rfl) :
    VE X W A H0 (.Call (.Name "isinstance" p) [a, .Name (Str.ofString T) q] [] pos) (f1 (fun | .scr _ => .no | d => isiD T d) fa) :=
  pe_imp (pe_callB call_isi hg hm (by decide +kernel) (pa_cons ha (pa_cons (pe_bltn (v := .ty T) hg2 hT hb rfl hnT hdT) pa_nil hs2) hs) (by decide) (by decide) hs hpl) fun σ H Q ⟨env, I, rl, q⟩ => ⟨env, I, rl, by
    have q0 : PostE X.K W σ I H ((fa env).bind fun | .scr _ => .no | d => isiD T d) Q := q
    cases hf : fa env with
    | er c p => rw [hf] at q0; exact q0
    | no => rw [hf] at q0; exact q0.elim
    | ok d =>
      rw [hf] at q0
      intro v I1 H1 g1 k
      have key : isiD T d = isiD T d → (∀ ns, d ≠ .scr ns) → PostE X.K W σ I H (isiD T d) Q → ∃ (x c : V) (t u : Value) (b : Bool), [v, V.ty T] = [x, c] ∧ ClsV c u ∧ TyX X.K H1 x t ∧ PySem.W.kitOne X.K t u = some b ∧ Q (.bl b) H1 := fun _ hn q1 => by
        unfold isiD at q1
        cases ht : tyn d with
        | none => rw [ht] at q1; exact q1.elim
        | some t =>
          rw [ht] at q1
          have q2 : PostE X.K W σ I H (match kitB t T with | some b => .ok (.bl b) | none => .no) Q := q1
          cases hk : kitB t T with
          | none => rw [hk] at q2; exact q2.elim
          | some b =>
            rw [hk] at q2
            rcases tyn_x k ht with ⟨_, _, ns, z⟩ | z
            · exact absurd z (hn ns)
            · exact ⟨v, .ty T, .type t, .type T, b, rfl, .ty T, z, kit_ty hk, q2 _ I1 H1 g1 .bl⟩
      cases d <;> first | exact key rfl (fun ns z => by cases z) q0 | exact q0.elim⟩
end

/-! ### defs by their names -/
structure Cal (P : Program) (w : World) (K : PySem.W.Frag) (mg : Str → Option Value) (base : Heap) (x : Str) (k : Nat) (fl : List Bool) (m : List D → R D) : Prop where
  ex : ∃ (f : Addr) (fd : FuncData) (ps : List Str), FnOk P w K mg base (L2.CX P w) k f fd ps (spF K fl m) ∧ mg x = some (.ref f) ∧ PySem.W.keepIn K (.ref f) = true ∧ Binds K fd ps []
structure CalN (P : Program) (w : World) (K : PySem.W.Frag) (mg : Str → Option Value) (base : Heap) (x : Str) (k : Nat) (fl : List Bool) (m : List D → R D) : Prop where
  ex : ∃ (f : Addr) (fd : FuncData) (ps : List Str), FnOk P w K mg base (L2.CX P w) k f fd ps (spN K fl m) ∧ mg x = some (.ref f) ∧ PySem.W.keepIn K (.ref f) = true ∧ Binds K fd ps []
section
variable {P : Program} {w : World} {K : PySem.W.Frag} {mg : Str → Option Value} {base : Heap} {y : Str} {k : Nat} {fl : List Bool} {m m' : List D → R D}
theorem Cal.eq (h : Cal P w K mg base y k fl m) (e : m = m') : Cal P w K mg base y k fl m' := e ▸ h
theorem CalN.eq (h : CalN P w K mg base y k fl m) (e : m = m') : CalN P w K mg base y k fl m' := e ▸ h
end
section
variable {X : Cx} {W : WX} {A H0 : Hp} {e : Expr} {pos : Pos} {x : Str} {j k : Nat} {fl : List Bool} {m : List D → R D} {es : List Expr} {fs : FA} {p : Pos}
theorem ve_cal (C : Cal X.prog X.w X.K X.mg X.base x k fl m) (hr : Room j X.A) (tk : Takes X W) (ha : VA X W A H0 (e :: es) fl fs) (hk : k ≤ j := by decide) (hg : Gl X x := by rfl) (hdb : (x == ("__debug__" : Str)) = false := by decide) (he : starEach (e :: es) X.env = (false, eval e X.env) :: starEach es X.env := by rfl) (hpl : (backTo pos (starEach es X.env)).any (·.1) = false := by rfl) :
    VE X W A H0 (.Call (.Name x p) (e :: es) [] pos) (fA m fs) := by
  obtain ⟨f, fd, ps, F0, h1, h2, h3⟩ := C.ex
  exact ve_call F0 (hr.mono hk) tk h1 h2 h3 ha hg hdb he hpl
theorem vf_cal (C : CalN X.prog X.w X.K X.mg X.base x k fl m) (hr : Room j X.A) (tk : Takes X W) (ha : VA X W A H0 (e :: es) fl fs) (hk : k ≤ j := by decide) (hg : Gl X x := by rfl) (hdb : (x == ("__debug__" : Str)) = false := by decide) (he : starEach (e :: es) X.env = (false, eval e X.env) :: starEach es X.env := by rfl) (hpl : (backTo pos (starEach es X.env)).any (·.1) = false := by rfl) :
    VF X W A H0 (.Call (.Name x p) (e :: es) [] pos) (fA m fs) := by
  obtain ⟨f, fd, ps, F0, h1, h2, h3⟩ := C.ex
  exact vf_call F0 (hr.mono hk) tk h1 h2 h3 ha hg hdb he hpl
end
end BW
/-! BCore12: the end of a law. -/
namespace BW
open PySem PySem.Spec PyProof.Rows L2
open Evl (Ex Ex.refl Ex.trans Ex.new ex_rd ex_l ex_t)
section
variable {X : Cx} {W : WX} {A H0 : Hp} {a b e : Expr} {fa fb f : F} {pos : Pos}
theorem post_te {K : PySem.W.Frag} {σ : L2.St} {I H : Hp} {r : R D} {Q : Bool → Hp → Prop} (q : PostT K W σ I H r Q) : PostE K W σ I H r (fun x H' => ∃ k, x = .bl k ∧ Q k H') := by
  cases r with
  | ok d =>
    cases d <;> try (exact q.elim)
    exact fun v I' H' g k => ⟨_, k.bl_inv, q I' H' g⟩
  | er c p => exact q
  | no => exact q.elim
theorem vt_cmp {op : CmpOp} {r : R2} {g : D → D → R D} (ho : OpR X (compareOp op) r) (hs : SOp X.K r g) (hn : NoEr g) (ha : VB X W A H0 a fa) (hb : VB X W A H0 b fb) (hm : behindInMarks op b = false) : VT X W A H0 (.Compare a [op] [b] pos) (f2 g fa fb) :=
  pt_imp (pt_cmpR ho ha hb hm) fun _ _ _ ⟨env, I, rl, q⟩ => op2_run hs hn ha hb ⟨env, I, rl, post_te q⟩
theorem vt_lt (ha : VB X W A H0 a fa) (hb : VB X W A H0 b fb) : VT X W A H0 (.Compare a [.Lt] [b] pos) (f2 ltD fa fb) := vt_cmp op_lt so_lt ne_lt ha hb (nomark _)
theorem vt_gt (ha : VB X W A H0 a fa) (hb : VB X W A H0 b fb) : VT X W A H0 (.Compare a [.Gt] [b] pos) (f2 gtD fa fb) := vt_cmp op_gt so_gt ne_gt ha hb (nomark _)
theorem vt_ge (ha : VB X W A H0 a fa) (hb : VB X W A H0 b fb) : VT X W A H0 (.Compare a [.GtE] [b] pos) (f2 geD fa fb) := vt_cmp op_ge so_ge ne_ge ha hb (nomark _)
theorem vt_eq (hu : X.A.units + 64 < cLine) (ha : VB X W A H0 a fa) (hb : VB X W A H0 b fb) : VT X W A H0 (.Compare a [.Eq] [b] pos) (f2 eqD fa fb) := vt_cmp (op_eqD hu) so_eq ner_eq ha hb (nomark _)
theorem vt_ne (hu : X.A.units + 64 < cLine) (ha : VB X W A H0 a fa) (hb : VB X W A H0 b fb) : VT X W A H0 (.Compare a [.NotEq] [b] pos) (f2 neD fa fb) := vt_cmp (op_neD hu) so_ne ner_ne ha hb (nomark _)
theorem vt_in (ha : VB X W A H0 a fa) (hb : VB X W A H0 b fb) (hm : behindInMarks .In b = false := by rfl) : VT X W A H0 (.Compare a [.In] [b] pos) (f2 inD fa fb) := vt_cmp (OpR.or op_in_seq op_in_str) so_in inD_ner ha hb hm
theorem vt_nin (ha : VB X W A H0 a fa) (hb : VB X W A H0 b fb) (hm : behindInMarks .NotIn b = false := by rfl) : VT X W A H0 (.Compare a [.NotIn] [b] pos) (f2 ninD fa fb) := vt_cmp (OpR.or op_notIn_seq op_notIn_str) so_nin ninD_ner ha hb hm
end
theorem quiet {P : Program} {w : World} {K : PySem.W.Frag} {mg : Str → Option Value} {base : Heap} {k : Nat} {f : Addr} {fd : FuncData} {ps : List Str} {sp : Sp} (h : FnOk P w K mg base (L2.CX P w) k f fd ps sp) : FnOk P w K mg base CX0 k f fd ps (fun vs H Q _ => sp vs H Q E0) :=
  ⟨fun vs H Q E q => h.len vs H Q E0 q, fun A outer s H args us vs Q E hr he hb hv hs => codeAny_mono (h.run A outer s H args us vs Q E0 hr he hb hv hs) fun r s' hq => by
    cases r with
    | ok fl => cases fl <;> exact hq
    | error e =>
      obtain ⟨_, _, _, _, _, _, _, _, _, _, _, _, z⟩ := hq
      exact z.elim⟩
/-- what is told of the law's def -/
def LawC (P : Program) (w : World) (K : PySem.W.Frag) (mg : Str → Option Value) (k : Nat) (m : List D → R D) : Prop :=
  ∃ fd : FuncData, (∀ (s : Shared) (us : List Value), us.length = (["_law_script"] : List Str).length → BindsTo s fd ⟨us, []⟩ ((["_law_script"] : List Str).zip us)) ∧ ∀ base : Heap, K.In base → base.Ns mainGlobals mg → FnOk P w K mg base (L2.CX P w) k (He.ga K "law") fd ["_law_script"] (spF K [true] m)
theorem law_end {P : Program} {w : World} {K : PySem.W.Frag} {mg : Str → Option Value} {fa : Addr} {h : Heap} {k : Nat} {m : List D → R D} (KX : K.In h) (hmg : mg "law" = some (.ref fa)) (hl : mg "law" = some (.ref (He.ga K "law"))) (C : LawC P w K mg k m) (ht : ∀ ns : List Int, ns.length ≤ 63 → m [.scr ns] = .ok (.bl true)) :
    ∃ (K : PySem.W.Frag) (fd : FuncData) (sp : Sp), K.In h ∧ (∀ (s : Shared) (u : Value), BindsTo s fd ⟨[u], []⟩ [("_law_script", u)]) ∧
        (∀ (H : Hp) (a : Addr) (ns : List Int), ns.length ≤ 63 → Only H → SqL K H a (ns.map V.int) → sp [.ref a] H (fun v _ => v = .bl true) fun _ _ _ => False) ∧
        ∀ base : Heap, K.In base → base.Ns mainGlobals mg → FnOk P w K mg base CX0 k fa fd ["_law_script"] sp := by
  obtain ⟨fd, hb, hF⟩ := C
  have e := hmg.symm.trans hl
  cases e
  refine ⟨K, fd, _, KX, fun s u => hb s [u] rfl, fun H a ns hn _ hS => ?_, fun base h1 h2 => quiet (hF base h1 h2)⟩
  refine ⟨[.scr ns], H, Evl.Ex.refl _, .st (.scr hS) .nil, ?_⟩
  rw [ht ns hn]
  exact fun v I' H' _ k => k.bl_inv
end BW
/-! BCore13: reckoning with the functions of a walk. -/
namespace BW
open PySem PySem.Spec PyProof.Rows L2
section
variable {α β : Type}
theorem gIf_e {t : F} {a b : G} {env : En} {c : Bool} (h : t env = .ok (.bl c)) : gIf t a b env = cond c (a env) (b env) := by unfold gIf; rw [h]; rfl
end
/-! ### loops -/
theorem gFor_e {items : F} {t : FT} {body : G} {env : En} {ds : List D} (h : items env = .ok (.lst ds)) : gFor items t body env = forF t body ds env := by unfold gFor; rw [h]; rfl
/-! ### comprehensions -/
theorem lcF_all {t : FT} {test elt : F} {env : En} {α : Type} (xs : List α) (enc : α → D) (p : α → Bool) (y : α → D) (h : ∀ x, x ∈ xs → ∃ e, t (enc x) env = .ok e ∧ test e = .ok (.bl (p x)) ∧ (p x = true → elt e = .ok (y x))) :
    lcF t test elt env (xs.map enc) = .ok ((xs.filter p).map y) := by
  induction xs with
  | nil => rfl
  | cons x r ih =>
    obtain ⟨e, h1, h2, h3⟩ := h x List.mem_cons_self
    have ih := ih fun z hz => h z (List.mem_cons_of_mem _ hz)
    show ((t (enc x) env).bindQ fun e => (test e).bindQ fun | .bl c => cond c ((elt e).bindQ fun y => (lcF t test elt env (r.map enc)).bindQ fun r => .ok (y :: r)) (lcF t test elt env (r.map enc)) | _ => .no) = _
    rw [h1]
    show ((test e).bindQ fun | .bl c => cond c ((elt e).bindQ fun y => (lcF t test elt env (r.map enc)).bindQ fun r => .ok (y :: r)) (lcF t test elt env (r.map enc)) | _ => .no) = _
    rw [h2]
    cases hp : p x with
    | true =>
      show ((elt e).bindQ fun y => (lcF t test elt env (r.map enc)).bindQ fun r => .ok (y :: r)) = _
      rw [h3 hp, ih, List.filter_cons_of_pos hp]
      rfl
    | false =>
      show lcF t test elt env (r.map enc) = _
      rw [ih, List.filter_cons_of_neg (by rw [hp]; decide)]
theorem lcF_map {t : FT} {elt : F} {env : En} {α : Type} (xs : List α) (enc : α → D) (y : α → D) (h : ∀ x, x ∈ xs → ∃ e, t (enc x) env = .ok e ∧ elt e = .ok (y x)) :
    lcF t (fC (.bl true)) elt env (xs.map enc) = .ok (xs.map y) := by
  have k := lcF_all (t := t) (test := fC (.bl true)) (elt := elt) (env := env) xs enc (fun _ => true) y fun x hx => by
    obtain ⟨e, h1, h2⟩ := h x hx
    exact ⟨e, h1, rfl, fun _ => h2⟩
  rw [k, List.filter_eq_self.mpr fun _ _ => rfl]
theorem fLc_e {items : F} {t : FT} {test elt : F} {own : List Nat} {env : En} {ds r : List D} (h : items env = .ok (.lst ds)) (hz : ds.length ≤ 16777216) (h2 : lcF t test elt (wipeE env own) ds = .ok r) : fLc items t test elt own env = .ok (.lst r) := by
  unfold fLc
  rw [h]
  show (if ds.length ≤ 16777216 then (lcF t test elt (wipeE env own) ds).bindQ fun r => R.ok (D.lst r) else R.no) = _
  rw [if_pos hz, h2]
  rfl
/-- so many numbers from one on -/
theorem rangeL_map (lo : Int) (n : Nat) : rangeL lo n = (List.range n).map fun k : Nat => D.int (lo + (k : Nat)) := rfl
theorem sz_line : sizeLine = 16777216 := by decide
/-! ### == -/
theorem eqS_int (a b : Int) : eqS (.int a) (.int b) = decide (a = b) := by
  show (a == b) = decide (a = b)
  rw [Bool.beq_eq_decide_eq]
theorem depthAll_ints : ∀ ns : List Int, PyData.depthAll (ns.map PyData.int) = 0
  | [] => rfl
  | _ :: r => by
    show max 0 (PyData.depthAll (r.map PyData.int)) = 0
    rw [depthAll_ints r]
    rfl
theorem canAll_ints : ∀ ns : List Int, PyData.canLayAll0 (ns.map PyData.int) = true
  | [] => rfl
  | _ :: r => by
    show (true && PyData.canLayAll0 (r.map PyData.int)) = true
    rw [canAll_ints r]
    rfl
theorem eqvAll_ints : ∀ (a b : List Int), PyData.eqvAll (a.map PyData.int) (b.map PyData.int) = decide (a = b)
  | [], [] => rfl
  | [], _ :: _ => rfl
  | _ :: _, [] => rfl
  | x :: a, y :: b => by
    show ((x == y) && PyData.eqvAll (a.map PyData.int) (b.map PyData.int)) = decide (x :: a = y :: b)
    rw [eqvAll_ints a b, Bool.beq_eq_decide_eq, ← Bool.decide_and]
    congr 1
    exact propext ⟨fun h => by rw [h.1, h.2], fun h => by injection h with h1 h2; exact ⟨h1, h2⟩⟩
theorem pyA_ints : ∀ ns : List Int, pyA (ns.map D.int) = some (ns.map PyData.int)
  | [] => rfl
  | n :: r => by
    show ((py (.int n)).bind fun x => (pyA (r.map D.int)).map fun xs => x :: xs) = _
    rw [pyA_ints r]
    rfl
theorem eqD_ints (a b : List Int) : eqD (.lst (a.map D.int)) (.lst (b.map D.int)) = .ok (.bl (decide (a = b))) := by
  show eqG _ _ = _
  unfold eqG
  have h : ∀ l : List Int, py (.lst (l.map D.int)) = some (.list (l.map PyData.int)) := fun l => by
    show (pyA (l.map D.int)).map PyData.list = _
    rw [pyA_ints]
    rfl
  rw [h, h]
  have s : ∀ l : List Int, SeqAt.shaped (.list (l.map PyData.int)) = true := fun l => by
    show (PyData.canLayAll0 (l.map PyData.int) && decide (PyData.depthAll (l.map PyData.int) + 1 ≤ 64)) = true
    rw [canAll_ints, depthAll_ints]
    rfl
  show (if (SeqAt.shaped (.list (a.map PyData.int)) && SeqAt.shaped (.list (b.map PyData.int))) = true then R.ok (D.bl (PyData.eqvAll (a.map PyData.int) (b.map PyData.int))) else R.no) = _
  rw [s, s, eqvAll_ints]
  rfl
theorem eqD_bl (a b : Bool) : eqD (.bl a) (.bl b) = .ok (.bl (decide (a = b))) := by cases a <;> cases b <;> rfl
theorem neD_of {a b : D} {c : Bool} (h : eqD a b = .ok (.bl c)) : neD a b = .ok (.bl (!c)) := by unfold neD; rw [h]; rfl
/-! ### in -/
theorem allSc_int (l : List Int) : allSc (l.map D.int) = true := allSc_ints l
theorem any_eqS (x : Int) (l : List Int) : ((l.map D.int).any fun y => eqS y (.int x)) = decide (x ∈ l) := by
  induction l with
  | nil => rfl
  | cons a r ih =>
    rw [List.map_cons, List.any_cons, ih, eqS_int, ← Bool.decide_or]
    congr 1
    exact propext ⟨fun h => List.mem_cons.mpr (h.elim (fun z => .inl z.symm) .inr), fun h => (List.mem_cons.mp h).elim (fun z => .inl z.symm) .inr⟩
theorem inD_ints (x : Int) (l : List Int) : inD (.int x) (.lst (l.map D.int)) = .ok (.bl (decide (x ∈ l))) := by
  rw [inD_lst, allSc_int, any_eqS]
  rfl
/-! ### built-in functions -/
theorem maxD_ints {l : List Int} (h : l ≠ []) : maxD [.lst (l.map D.int)] = .ok (.int (maxL l)) := by
  show (match intsD (l.map D.int) with | some (n :: ns) => R.ok (D.int (maxL (n :: ns))) | _ => .no) = _
  rw [ints_map]
  cases l with
  | nil => exact absurd rfl h
  | cons => rfl
theorem minD_ints {l : List Int} (h : l ≠ []) : minD [.lst (l.map D.int)] = .ok (.int (minL l)) := by
  show (match intsD (l.map D.int) with | some (n :: ns) => R.ok (D.int (minL (n :: ns))) | _ => .no) = _
  rw [ints_map]
  cases l with
  | nil => exact absurd rfl h
  | cons => rfl
end BW
/-! BCore14: rewriting by which a mirror is run. -/
namespace BW
open PySem PySem.Spec PyProof.Rows L2
/-! ### expressions -/
section
variable {α β : Type}
@[simp] theorem r_bind_ok (a : α) (f : α → R β) : (R.ok a).bind f = f a := id rfl
@[simp] theorem r_bind_er (c p) (f : α → R β) : (R.er c p : R α).bind f = .er c p := id rfl
@[simp] theorem r_bindQ_ok (a : α) (f : α → R β) : (R.ok a).bindQ f = f a := id rfl
end
def R.b2 (x y : R D) (g : D → D → R D) : R D := x.bind fun a => y.bind fun b => g a b
@[simp] theorem b2_ok (a b : D) (g : D → D → R D) : R.b2 (.ok a) (.ok b) g = g a b := id rfl
@[simp] theorem b2_er (c p) (b : R D) (g : D → D → R D) : R.b2 (.er c p) b g = .er c p := id rfl
@[simp] theorem b2_er2 (a c p) (g : D → D → R D) : R.b2 (.ok a) (.er c p) g = .er c p := id rfl
def R.cn (x : R D) (y : R (List D)) : R (List D) := x.bind fun a => y.bind fun b => .ok (a :: b)
@[simp] theorem cn_ok (a b) : R.cn (.ok a) (.ok b) = .ok (a :: b) := id rfl
@[simp] theorem cn_er (c p) (b) : R.cn (.er c p) b = .er c p := id rfl
@[simp] theorem cn_er2 (a c p) : R.cn (.ok a) (.er c p) = .er c p := id rfl
@[simp] theorem s_fI0 (d e) : fI 0 (.im d :: e) = .ok d := id rfl
@[simp] theorem s_fIs (i s e) : fI (i + 1) (s :: e) = fI i e := id rfl
@[simp] theorem s_fL0 (d e) : fL 0 (.im d :: e) = .ok d := id rfl
@[simp] theorem s_fL0b (d e) : fL 0 (.bo d :: e) = .ok d := id rfl
@[simp] theorem s_fL0m (d e) : fL 0 (.mu d :: e) = .ok (.lst d) := id rfl
@[simp] theorem s_fLs (i s e) : fL (i + 1) (s :: e) = fL i e := id rfl
@[simp] theorem s_fV0 (d e) : fV 0 (.im (.lst d) :: e) = .ok (.lst d) := id rfl
@[simp] theorem s_fV0m (d e) : fV 0 (.mu d :: e) = .ok (.lst d) := id rfl
@[simp] theorem s_fVs (i s e) : fV (i + 1) (s :: e) = fV i e := id rfl
@[simp] theorem s_fM0m (d e) : fM 0 (.mu d :: e) = .ok (.lst d) := id rfl
@[simp] theorem s_fMs (i s e) : fM (i + 1) (s :: e) = fM i e := id rfl
@[simp] theorem s_fBs0 (d e) : fBs 0 (.bo (.lst d) :: e) = if allSc d then .ok (.lst d) else .no := id rfl
@[simp] theorem s_fBss (i s e) : fBs (i + 1) (s :: e) = fBs i e := id rfl
@[simp] theorem s_fC (d e) : fC d e = .ok d := id rfl
@[simp] theorem s_f1 (g a e) : f1 g a e = (a e).bind g := id rfl
@[simp] theorem s_f2 (g a b e) : f2 g a b e = R.b2 (a e) (b e) g := id rfl
@[simp] theorem s_fA (g a e) : fA g a e = (a e).bind g := id rfl
@[simp] theorem s_aNil (e) : aNil e = .ok [] := id rfl
@[simp] theorem s_aCons (a b e) : aCons a b e = R.cn (a e) (b e) := id rfl
@[simp] theorem s_fLs_ (f e) : fLs f e = (f e).bind lsD := id rfl
@[simp] theorem s_lsD (l) : lsD (.lst l) = .ok (.lst l) := id rfl
@[simp] theorem s_scD_i (l) : scD (.int l) = .ok (.int l) := id rfl
@[simp] theorem s_scD_b (l) : scD (.bl l) = .ok (.bl l) := id rfl
@[simp] theorem s_scD_s (l) : scD (.str l) = .ok (.str l) := id rfl
@[simp] theorem s_scD_n : scD .non = .ok .non := id rfl
def R.cnd (t : R D) (a b : F) (e : En) : R D := t.bind fun | .bl c => cond c (a e) (b e) | _ => .no
@[simp] theorem cnd_ok (c a b e) : R.cnd (.ok (.bl c)) a b e = cond c (a e) (b e) := id rfl
@[simp] theorem cnd_er (c p a b e) : R.cnd (.er c p) a b e = .er c p := id rfl
@[simp] theorem s_fIf (t a b e) : fIf t a b e = R.cnd (t e) a b e := id rfl
def R.an (t : R D) (b : F) (e : En) : R D := t.bind fun | .bl c => cond c ((b e).bind blR) (.ok (.bl false)) | _ => .no
@[simp] theorem an_ok (c b e) : R.an (.ok (.bl c)) b e = cond c ((b e).bind blR) (.ok (.bl false)) := id rfl
@[simp] theorem an_er (c p b e) : R.an (.er c p) b e = .er c p := id rfl
@[simp] theorem s_fAnd (t b e) : fAnd t b e = R.an (t e) b e := id rfl
def R.orr (t : R D) (b : F) (e : En) : R D := t.bind fun | .bl c => cond c (.ok (.bl true)) ((b e).bind blR) | _ => .no
@[simp] theorem orr_ok (c b e) : R.orr (.ok (.bl c)) b e = cond c (.ok (.bl true)) ((b e).bind blR) := id rfl
@[simp] theorem orr_er (c p b e) : R.orr (.er c p) b e = .er c p := id rfl
@[simp] theorem s_fOr (t b e) : fOr t b e = R.orr (t e) b e := id rfl
@[simp] theorem s_blR (c) : blR (.bl c) = .ok (.bl c) := id rfl
@[simp] theorem s_fNot (f e) : fNot f e = (f e).bind notD := id rfl
@[simp] theorem s_notD (c) : notD (.bl c) = .ok (.bl (!c)) := id rfl
@[simp] theorem cond_bl (c x y : Bool) : cond c (R.ok (D.bl x)) (R.ok (D.bl y)) = .ok (.bl (cond c x y)) := by cases c <;> rfl
@[simp] theorem s_seqD_l (l) : seqD (.lst l) = .ok (.lst l) := id rfl
@[simp] theorem s_seqD_t (l) : seqD (.tup l) = .ok (.lst l) := id rfl
@[simp] theorem s_seqD_s (l) : seqD (.scr l) = .ok (.lst (l.map D.int)) := id rfl
@[simp] theorem s_tupD (l) : tupD l = .ok (.tup l) := id rfl
@[simp] theorem s_lstD (l) : lstD l = .ok (.lst l) := id rfl
@[simp] theorem s_tplD (l) : tplD (.lst l) = .ok (.tup l) := id rfl
@[simp] theorem s_listD_l (l) : listD [.lst l] = .ok (.lst l) := id rfl
@[simp] theorem s_listD_t (l) : listD [.tup l] = .ok (.lst l) := id rfl
@[simp] theorem s_tupleD_l (l) : tupleD [.lst l] = .ok (.tup l) := id rfl
@[simp] theorem s_tupleD_t (l) : tupleD [.tup l] = .ok (.tup l) := id rfl
@[simp] theorem s_lenD_l (l) : lenD [.lst l] = .ok (.int (l.length : Nat)) := id rfl
@[simp] theorem s_lenD_t (l) : lenD [.tup l] = .ok (.int (l.length : Nat)) := id rfl
@[simp] theorem s_lenD_s (l) : lenD [.scr l] = .ok (.int (l.length : Nat)) := id rfl
@[simp] theorem s_absD (i : Int) : absD [.int i] = .ok (.int (i.natAbs : Nat)) := by
  show R.ok (D.int (if i < 0 then -i else i)) = _
  congr 2
  split <;> omega
@[simp] theorem s_intD_i (i) : intD [.int i] = .ok (.int i) := id rfl
@[simp] theorem s_intD_b (b : Bool) : intD [.bl b] = .ok (.int (cond b 1 0)) := by cases b <;> rfl
@[simp] theorem s_boolD_i (i) : boolD [.int i] = .ok (.bl (i != 0)) := id rfl
@[simp] theorem s_boolD_b (b : Bool) : boolD [.bl b] = .ok (.bl b) := id rfl
@[simp] theorem s_truD_b (b : Bool) : truD (.bl b) = .ok (.bl b) := id rfl
@[simp] theorem s_truD_i (b) : truD (.int b) = .ok (.bl (b != 0)) := id rfl
@[simp] theorem s_truD_l (b) : truD (.lst b) = .ok (.bl (!b.isEmpty)) := id rfl
@[simp] theorem s_truD_n : truD .non = .ok (.bl false) := id rfl
/-! ### reckoning -/
@[simp] theorem s_add (i j) : addD (.int i) (.int j) = .ok (.int (i + j)) := id rfl
@[simp] theorem s_sub (i j) : subD (.int i) (.int j) = .ok (.int (i - j)) := id rfl
@[simp] theorem s_neg (i) : negD (.int i) = .ok (.int (-i)) := id rfl
@[simp] theorem s_lt (i j) : ltD (.int i) (.int j) = .ok (.bl (decide (i < j))) := id rfl
@[simp] theorem s_le (i j) : leD (.int i) (.int j) = .ok (.bl (decide (i ≤ j))) := id rfl
@[simp] theorem s_gt (i j) : gtD (.int i) (.int j) = .ok (.bl (decide (j < i))) := id rfl
@[simp] theorem s_ge (i j) : geD (.int i) (.int j) = .ok (.bl (decide (j ≤ i))) := id rfl
@[simp] theorem s_eq (i j) : eqD (.int i) (.int j) = .ok (.bl (decide (i = j))) := id rfl
@[simp] theorem s_ne (i j : Int) : neD (.int i) (.int j) = .ok (.bl (!decide (i = j))) := id rfl
@[simp] theorem s_eqb (a b : Bool) : eqD (.bl a) (.bl b) = .ok (.bl (decide (a = b))) := eqD_bl a b
@[simp] theorem s_neb (a b : Bool) : neD (.bl a) (.bl b) = .ok (.bl (!decide (a = b))) := neD_of (eqD_bl a b)
@[simp] theorem s_isb (a b : Bool) : isD (.bl a) (.bl b) = .ok (.bl (decide (a = b))) := id rfl
@[simp] theorem s_isnb (a b : Bool) : isnD (.bl a) (.bl b) = .ok (.bl (!decide (a = b))) := id rfl
theorem fdiv_ok {i j : Int} (h : 0 < j) (h2 : j.natAbs.log2 < 9000) : fdivD (.int i) (.int j) = .ok (.int (i / j)) := if_pos ⟨h, h2⟩
theorem mod_ok {i j : Int} (h : 0 < j) : modD (.int i) (.int j) = .ok (.int (i % j)) := if_pos h
theorem mul_ok {i j : Int} (h : smallI i = true ∨ smallI j = true) : mulD (.int i) (.int j) = .ok (.int (i * j)) := by
  simp only [mulD]
  rw [if_pos]
  rcases h with h | h <;> rw [h] <;> simp
theorem range1_ok {n : Nat} (h : n ≤ 16777216) : rangeD [.int (n : Int)] = .ok (.lst (rangeL 0 n)) := by
  simp only [rangeD]
  rw [if_pos ⟨by omega, by omega⟩, Int.toNat_natCast]
/-! ### statements -/
def SR.sq (r : SR) (b : G) : SR := match r with
  | .nx e => b e
  | r => r
@[simp] theorem sq_nx (e b) : SR.sq (.nx e) b = b e := id rfl
@[simp] theorem sq_rt (d b) : SR.sq (.rt d) b = .rt d := id rfl
@[simp] theorem sq_er (e c p b) : SR.sq (.er e c p) b = .er e c p := id rfl
@[simp] theorem sq_bk (e b) : SR.sq (.bk e) b = .bk e := id rfl
@[simp] theorem sq_ct (e b) : SR.sq (.ct e) b = .ct e := id rfl
@[simp] theorem s_gSeq (a b e) : gSeq a b e = SR.sq (a e) b := id rfl
@[simp] theorem s_gNext (e) : gNext e = .nx e := id rfl
@[simp] theorem s_gBreak (e) : gBreak e = .bk e := id rfl
@[simp] theorem s_gCont (e) : gCont e = .ct e := id rfl
@[simp] theorem of_ok_ (e d k) : SR.of e (.ok d) k = k d := id rfl
@[simp] theorem of_er_ (e c p k) : SR.of e (.er c p) k = .er e c p := id rfl
def SR.st (r : R D) (i : Nat) (e : En) : SR := .of e r fun d => .nx (e.set i (.im d))
@[simp] theorem st_ok (d i e) : SR.st (.ok d) i e = .nx (e.set i (.im d)) := id rfl
@[simp] theorem st_er (c p i e) : SR.st (.er c p) i e = .er e c p := id rfl
@[simp] theorem s_gSet (i f e) : gSet i f e = SR.st (f e) i e := id rfl
def SR.stM (r : R D) (i : Nat) (e : En) : SR := .of e r fun
  | .lst l => .nx (e.set i (.mu l))
  | _ => .no
@[simp] theorem stM_ok (d i e) : SR.stM (.ok (.lst d)) i e = .nx (e.set i (.mu d)) := id rfl
@[simp] theorem stM_er (c p i e) : SR.stM (.er c p) i e = .er e c p := id rfl
@[simp] theorem s_gSetM (i f e) : gSetM i f e = SR.stM (f e) i e := id rfl
def SR.dr (r : R D) (e : En) : SR := .of e r fun _ => .nx e
@[simp] theorem dr_ok (d e) : SR.dr (.ok d) e = .nx e := id rfl
@[simp] theorem dr_er (c p e) : SR.dr (.er c p) e = .er e c p := id rfl
@[simp] theorem s_gDrop (f e) : gDrop f e = SR.dr (f e) e := id rfl
def SR.rr (r : R D) (e : En) : SR := .of e r fun d => .rt d
@[simp] theorem rr_ok (d e) : SR.rr (.ok d) e = .rt d := id rfl
@[simp] theorem rr_er (c p e) : SR.rr (.er c p) e = .er e c p := id rfl
@[simp] theorem s_gRet (f e) : gRet f e = SR.rr (f e) e := id rfl
@[simp] theorem s_gRetM0 (l e) : gRetM 0 (.mu l :: e) = .rt (.lst l) := id rfl
@[simp] theorem s_gRetMs (i s e) : gRetM (i + 1) (s :: e) = gRetM i e := id rfl
@[simp] theorem s_gRetN (e) : gRetN e = .rt .non := id rfl
@[simp] theorem s_gRaise (c e) : gRaise c e = .er e c [] := id rfl
def SR.cnd (r : R D) (a b : G) (e : En) : SR := .of e r fun
  | .bl c => cond c (a e) (b e)
  | _ => .no
@[simp] theorem scnd_ok (c a b e) : SR.cnd (.ok (.bl c)) a b e = cond c (a e) (b e) := id rfl
@[simp] theorem scnd_er (c p a b e) : SR.cnd (.er c p) a b e = .er e c p := id rfl
@[simp] theorem s_gIf (t a b e) : gIf t a b e = SR.cnd (t e) a b e := id rfl
def Sl.frz : Sl → Sl
  | .mu l => .im (.lst l)
  | s => s
theorem gFrz_at {i : Nat} {l} {e : En} (h : e[i]? = some (.mu l)) : gFrz i e = .nx (e.set i (.im (.lst l))) := by unfold gFrz; rw [h]
/-- what a statement at slot i of e does, by the slot -/
def SR.mt (l : List D) (r : R D) (k : List D → D → Option (List D)) (i : Nat) (e : En) : SR := .of e r fun d => (match k l d with
    | some m => .nx (e.set i (.mu m))
    | none => .no)
theorem mt_ok {l d k i e m} (h : k l d = some m) : SR.mt l (.ok d) k i e = .nx (e.set i (.mu m)) := by
  show (match k l d with | some m => SR.nx (e.set i (.mu m)) | none => .no) = _
  rw [h]
theorem mt_app {l d i e} (h : l.length < 16777216) : SR.mt l (.ok d) kApp i e = .nx (e.set i (.mu (l ++ [d]))) := mt_ok (if_pos (sz_line ▸ h))
theorem mt_ext {l m i e} (h : l.length + m.length ≤ 16777216) : SR.mt l (.ok (.lst m)) kExt i e = .nx (e.set i (.mu (l ++ m))) := mt_ok (if_pos (sz_line ▸ h))
def SR.fo (r : R D) (t : FT) (b : G) (e : En) : SR := .of e r fun
  | .lst ds => forF t b ds e
  | _ => .no
@[simp] theorem fo_ok (ds t b e) : SR.fo (.ok (.lst ds)) t b e = forF t b ds e := id rfl
@[simp] theorem fo_er (c p t b e) : SR.fo (.er c p) t b e = .er e c p := id rfl
@[simp] theorem s_gFor (i t b e) : gFor i t b e = SR.fo (i e) t b e := id rfl
@[simp] theorem outD_rt (d) : outD (.rt d) = .ok d := id rfl
@[simp] theorem outD_nx (d) : outD (.nx d) = .ok .non := id rfl
@[simp] theorem outD_er (e c p) : outD (.er e c p) = .er c p := id rfl
@[simp] theorem outN_rt (d) : outN (.rt d) = .ok d := id rfl
@[simp] theorem outN_er (e c p) : outN (.er e c p) = .er c p := id rfl
@[simp] theorem s_tN (i d e) : tN i d e = .ok (e.set i (.im d)) := id rfl
@[simp] theorem s_tsNil (e) : tsNil [] e = .ok e := id rfl
@[simp] theorem s_tsCons (t u d ds e) : tsCons t u (d :: ds) e = (t d e).bind fun e => u ds e := id rfl
@[simp] theorem s_tT2 (u a b e) : tT 2 u (.tup [a, b]) e = u [a, b] e := id rfl
@[simp] theorem s_tT3 (u a b c e) : tT 3 u (.tup [a, b, c]) e = u [a, b, c] e := id rfl
end BW
namespace BW
open PySem PySem.Spec PyProof.Rows L2
@[simp] theorem s_isi_i (T : String) (n : Int) : (match (D.int n) with | .scr _ => R.no | d => isiD T d) = isiD T (.int n) := id rfl
end BW
namespace BW
open PySem PySem.Spec PyProof.Rows L2
def SR.muT (s : Option Sl) (r : R D) (k : List D → D → Option (List D)) (i : Nat) (e : En) : SR := match s with
  | some (.mu l) => SR.mt l r k i e
  | _ => .no
@[simp] theorem muT_mu (l r k i e) : SR.muT (some (.mu l)) r k i e = SR.mt l r k i e := id rfl
@[simp] theorem s_gMut (i f k) (e : En) : gMut i f k e = SR.muT e[i]? (f e) k i e := id rfl
def SR.fz (s : Option Sl) (i : Nat) (e : En) : SR := match s with
  | some (.mu l) => .nx (e.set i (.im (.lst l)))
  | _ => .nx e
@[simp] theorem fz_mu (l i e) : SR.fz (some (.mu l)) i e = .nx (e.set i (.im (.lst l))) := id rfl
@[simp] theorem fz_im (d i e) : SR.fz (some (.im d)) i e = .nx e := id rfl
@[simp] theorem fz_no (i e) : SR.fz (some .no) i e = .nx e := id rfl
@[simp] theorem s_gFrz (i) (e : En) : gFrz i e = SR.fz e[i]? i e := id rfl
@[simp] theorem sz_eq : sizeLine = 16777216 := sz_line
end BW
namespace BW
open PySem PySem.Spec PyProof.Rows L2
@[simp] theorem s_mod {i j : Int} (h : 0 < j) : modD (.int i) (.int j) = .ok (.int (i % j)) := mod_ok h
theorem log_lit {j : Int} (h : 0 < j) (h2 : j ≤ 10 ^ 60) : j.natAbs.log2 < 9000 := by
  have k : j.natAbs.log2 < 200 := (Nat.log2_lt (by omega)).mpr (by
    have : (2 : Nat) ^ 200 = 1606938044258990275541962092341162602522202993782792835301376 := by decide
    omega)
  omega
@[simp] theorem s_fdiv {i j : Int} (h : 0 < j) (h2 : j ≤ 1000000000000000000) : fdivD (.int i) (.int j) = .ok (.int (i / j)) := fdiv_ok h (log_lit h (by omega))
@[simp] theorem s_pow {i j : Int} (h0 : 0 ≤ j) (h2 : j ≤ 1000000) (h : i.natAbs < 2 ^ 64) : powD (.int i) (.int j) = .ok (.int (i ^ j.toNat)) := by
  have e : powD (.int i) (.int j) = if 0 ≤ j ∧ j ≤ 1000000 ∧ i.natAbs < 2 ^ 64 then .ok (.int (i ^ j.toNat)) else .no := by simp only [powD]
  rw [e, if_pos ⟨h0, h2, h⟩]
@[simp] theorem s_shl {i j : Int} (h0 : 0 ≤ j) (h2 : j ≤ 1000000) (h : i.natAbs < 2 ^ 64) : shlD (.int i) (.int j) = .ok (.int (i * 2 ^ j.toNat)) := by
  have e : shlD (.int i) (.int j) = if 0 ≤ j ∧ j ≤ 1000000 ∧ i.natAbs < 2 ^ 64 then .ok (.int (i * 2 ^ j.toNat)) else .no := by simp only [shlD]
  rw [e, if_pos ⟨h0, h2, h⟩]
@[simp] theorem s_shr {i j : Int} (h0 : 0 ≤ j) : shrD (.int i) (.int j) = .ok (.int (i / 2 ^ j.toNat)) := if_pos h0
theorem smallI_of {i : Int} (h : -(2 ^ 64) < i) (h2 : i < 2 ^ 64) : smallI i = true := decide_eq_true ⟨h, h2⟩
@[simp] theorem s_mul1 {i j : Int} (h : smallI i = true) : mulD (.int i) (.int j) = .ok (.int (i * j)) := mul_ok (.inl h)
@[simp] theorem s_mul2 {i j : Int} (h : smallI j = true) : mulD (.int i) (.int j) = .ok (.int (i * j)) := mul_ok (.inr h)
@[simp] theorem s_range {n : Int} (h0 : 0 ≤ n) (h : n ≤ 16777216) : rangeD [.int n] = .ok (.lst (rangeL 0 n.toNat)) := by
  obtain ⟨k, rfl⟩ := Int.eq_ofNat_of_zero_le h0
  rw [range1_ok (by omega), Int.toNat_natCast]
@[simp] theorem s_mt_app {l d i e} (h : l.length < 16777216) : SR.mt l (.ok d) kApp i e = .nx (e.set i (.mu (l ++ [d]))) := mt_app h
@[simp] theorem s_mt_ext {l m i e} (h : l.length + m.length ≤ 16777216) : SR.mt l (.ok (.lst m)) kExt i e = .nx (e.set i (.mu (l ++ m))) := mt_ext h
@[simp] theorem s_cat {x y : List D} (h : x.length + y.length ≤ 16777216) : catD (.lst x) (.lst y) = .ok (.lst (x ++ y)) := if_pos (sz_line ▸ h)
end BW
/-! BCore15: own lists lent to a call. -/
namespace BW
open PySem PySem.Spec PyProof.Rows L2
open Evl (Ex Ex.refl Ex.trans Ex.new ex_rd ex_l ex_t)
/-! ### data without lists -/
mutual
def lf : D → Bool
  | .lst _ => false
  | .scr _ => false
  | .tup l => lfA l
  | .obj _ l => lfA l
  | .exc _ l => lfA l
  | .dct _ l => lfA l
  | .dtt _ l => lfA l
  | _ => true
def lfA : List D → Bool
  | [] => true
  | d :: ds => lf d && lfA ds
end
def lfD (d : D) : R D := if lf d then .ok d else .no
/-- the told part, and all lists beside it -/
def lend (I H : Hp) : Hp := fun x => match I x with
  | some o => some o
  | none => match H x with
    | some (.lst vs) => some (.lst vs)
    | _ => none
/-- what is told behind the call, less the lists lent -/
def back (I J J' : Hp) : Hp := fun x => match I x with
  | some o => some o
  | none => match J x with
    | some _ => none
    | none => J' x
section
variable {K : PySem.W.Frag} {I H J J' H' : Hp}
theorem lend_i : Ex I (lend I H) := fun a u h => by unfold lend; rw [h]
theorem lend_h (e : Ex I H) : Ex (lend I H) H := fun a u h => by
  unfold lend at h
  cases q : I a with
  | some o =>
    rw [q] at h
    have h' : some o = some u := h
    rw [← h']
    exact e _ _ q
  | none =>
    rw [q] at h
    cases q2 : H a with
    | none => rw [q2] at h; cases h
    | some o =>
      rw [q2] at h
      cases o <;> first | exact h | cases h
theorem lend_lst {a : Addr} {vs : List V} (e : Ex I H) (h : H a = some (.lst vs)) : lend I H a = some (.lst vs) := by
  unfold lend
  cases q : I a with
  | some o =>
    have := e _ _ q
    rw [h] at this
    exact this.symm
  | none => rw [h]
theorem lend_new {a : Addr} {o : HO} (h : lend I H a = some o) : I a = some o ∨ ∃ vs, o = .lst vs := by
  unfold lend at h
  cases q : I a with
  | some u => rw [q] at h; exact .inl h
  | none =>
    rw [q] at h
    cases q2 : H a with
    | none => rw [q2] at h; cases h
    | some u =>
      rw [q2] at h
      cases u <;> first | (cases h; done) | exact .inr ⟨_, (Option.some.inj h).symm⟩
theorem back_i : Ex I (back I J J') := fun a u h => by unfold back; rw [h]
theorem back_le (e : Ex I J') : Ex (back I J J') J' := fun a u h => by
  unfold back at h
  cases q : I a with
  | some o =>
    rw [q] at h
    have h' : some o = some u := h
    rw [← h']
    exact e _ _ q
  | none =>
    rw [q] at h
    cases q2 : J a with
    | some o => rw [q2] at h; cases h
    | none => rw [q2] at h; exact h
theorem back_grow (ih : Ex I H) (g : Grow (lend I H) H J' H') : Grow I H (back I (lend I H) J') H' := by
  refine ⟨back_i, g.h, (back_le (lend_i.trans g.i)).trans g.ih, fun a o h => ?_⟩
  unfold back at h
  cases q : I a with
  | some u => rw [q] at h; exact .inl h
  | none =>
    rw [q] at h
    cases q2 : lend I H a with
    | some u => rw [q2] at h; cases h
    | none =>
      rw [q2] at h
      rcases g.new a o h with z | z
      · rw [q2] at z; cases z
      · exact .inr z
theorem back_get {a : Addr} {o : HO} (ij : Ex I J) (jj : Ex J J') (hl : ∀ a o, J a = some o → I a = some o ∨ ∃ vs, o = .lst vs) (h : J' a = some o) (no : ∀ vs, o ≠ .lst vs) : back I J J' a = some o := by
  unfold back
  cases q : I a with
  | some u =>
    have := jj _ _ (ij _ _ q)
    rw [h] at this
    exact this.symm
  | none =>
    cases q2 : J a with
    | some u =>
      have := jj _ _ q2
      rw [h] at this
      cases this
      rcases hl a o q2 with z | ⟨vs, z⟩
      · rw [q] at z; cases z
      · exact absurd z (no vs)
    | none => exact h
mutual
theorem Rd.back (ij : Ex I J) (jj : Ex J J') (hl : ∀ a o, J a = some o → I a = some o ∨ ∃ vs, o = .lst vs) : ∀ {v : V} {d : D}, Rd K J' v d → lf d = true → Rd K (back I J J') v d
  | _, _, .non, _ => .non
  | _, _, .bl, _ => .bl
  | _, _, .int, _ => .int
  | _, _, .str, _ => .str
  | _, _, .lst h q, e => by cases e
  | _, _, .tup ⟨ob, hd, h⟩ q, e => .tup ⟨ob, hd, back_get ij jj hl h (fun _ z => nomatch z)⟩ (RdA.back ij jj hl q e)
  | _, _, .scr h, e => by cases e
  | _, _, .obj h l q, e => .obj (back_get ij jj hl h (fun _ z => nomatch z)) l (RdA.back ij jj hl q e)
  | _, _, .exc0 h, _ => .exc0 (back_get ij jj hl h (fun _ z => nomatch z))
  | _, _, .exc1 (d := d) h k q, e => .exc1 (back_get ij jj hl h (fun _ z => nomatch z)) (back_get ij jj hl k (fun _ z => nomatch z)) (Rd.back ij jj hl q (Bool.and_eq_true_iff.mp (show (lf d && lfA []) = true from e)).1)
  | _, _, .dct h k q, e => .dct (back_get ij jj hl h (fun _ z => nomatch z)) k (RdA.back ij jj hl q e)
  | _, _, .dtt h k q, e => .dtt (back_get ij jj hl h (fun _ z => nomatch z)) k (RdA.back ij jj hl q e)
  | _, _, .adr, _ => .adr
theorem RdA.back (ij : Ex I J) (jj : Ex J J') (hl : ∀ a o, J a = some o → I a = some o ∨ ∃ vs, o = .lst vs) : ∀ {v : List V} {d : List D}, RdA K J' v d → lfA d = true → RdA K (back I J J') v d
  | _, _, .nil, _ => .nil
  | _, _, .cons (d := d) (ds := ds) h q, e => .cons (Rd.back ij jj hl h (Bool.and_eq_true_iff.mp (show (lf d && lfA ds) = true from e)).1) (RdA.back ij jj hl q (Bool.and_eq_true_iff.mp (show (lf d && lfA ds) = true from e)).2)
end
theorem ErrIs.back (ij : Ex I J) (jj : Ex J J') (hl : ∀ a o, J a = some o → I a = some o ∨ ∃ vs, o = .lst vs) {c : Nat} {p : List D} {cls : Value} {od : Option Addr} (h : ErrIs K c p cls od J') : ErrIs K c p cls od (back I J J') := by
  refine ⟨h.1, ?_⟩
  have h2 := h.2
  match p, h2 with
  | [], h2 => exact h2
  | [d], h2 =>
    obtain ⟨dx, v, h3, h4, h5⟩ := h2
    exact ⟨dx, v, h3, h4, back_get ij jj hl h5 (fun _ z => nomatch z)⟩
/-! ### arguments, some lent -/
inductive ArgsL (K : PySem.W.Frag) (I H : Hp) : List V → List D → Prop
  | nil : ArgsL K I H [] []
  | st {v d vs ds} : Rd K I v d → ArgsL K I H vs ds → ArgsL K I H (v :: vs) (d :: ds)
  | ln {a xs l vs ds} : H a = some (.lst xs) → RdA K I xs l → ArgsL K I H vs ds → ArgsL K I H (.ref a :: vs) (.lst l :: ds)
theorem ArgsL.ok (e : Ex I H) : ∀ {vs : List V} {ds : List D}, ArgsL K I H vs ds → ArgsOk K (lend I H) H (List.replicate ds.length true) vs ds
  | _, _, .nil => .nil
  | _, _, .st h q => .st (h.mono lend_i) (ArgsL.ok e q)
  | _, _, .ln h k q => .st (.lst (lend_lst e h) (k.mono lend_i)) (ArgsL.ok e q)
end
def PostAL (K : PySem.W.Frag) (W : WX) (σ : L2.St) (I H : Hp) (r : R (List D)) (Q : List V → Hp → Prop) : Prop := match r with
  | .ok ds => ∀ vs I' H', Grow I H I' H' → ArgsL K I' H' vs ds → Q vs H'
  | .er c p => ∀ cls od I' H', Grow I H I' H' → ErrIs K c p cls od I' → W cls od σ H'
  | .no => False
def rdAL (K : PySem.W.Frag) (W : WX) (A H0 : Hp) (f : FA) : TA := fun σ H Q => ∃ env I, Rel K A H0 env σ I H ∧ PostAL K W σ I H (f env) Q
def VAL (X : Cx) (W : WX) (A H0 : Hp) (es : List Expr) (f : FA) : Prop := PA X es (rdAL X.K W A H0 f)
section
variable {X : Cx} {W : WX} {A H0 : Hp} {e : Expr} {f : F} {es : List Expr} {fs : FA}
theorem val_nil : VAL X W A H0 [] aNil := pa_imp pa_nil fun σ H Q ⟨env, I, r, q⟩ => q [] I H (Grow.refl r.g.ih) .nil
theorem val_st (h : VE X W A H0 e f) (hr : VAL X W A H0 es fs) (hs : starEach (e :: es) X.env = (false, eval e X.env) :: starEach es X.env := by rfl) : VAL X W A H0 (e :: es) (aCons f fs) :=
  pa_imp (pa_cons h hr hs) fun σ H Q ⟨env, I, r, q⟩ => ⟨env, I, r, by
    have q' : PostAL X.K W σ I H ((f env).bind fun x => (fs env).bind fun y => .ok (x :: y)) Q := q
    cases hf : f env with
    | er c p => rw [hf] at q'; exact q'
    | no => rw [hf] at q'; exact q'.elim
    | ok d =>
      rw [hf] at q'
      have q2 : PostAL X.K W σ I H ((fs env).bind fun y => .ok (d :: y)) Q := q'
      intro v I' H' g k
      refine ⟨env, I', r.grow g, ?_⟩
      cases hs : fs env with
      | no => rw [hs] at q2; exact q2.elim
      | er c p => rw [hs] at q2; exact fun cls od I2 H2 g2 k2 => q2 cls od I2 H2 (g.trans g2) k2
      | ok ds => rw [hs] at q2; exact fun vs I2 H2 g2 k2 => q2 (v :: vs) I2 H2 (g.trans g2) (.st (k.mono g2.i) k2)⟩
end
/-! ### calls that keep a promise -/
section
variable {X : Cx} {W : WX} {A H0 : Hp} {e : Expr} {es : List Expr} {fs : FA} {pos : Pos}
/-- what stands at x keeps sp -/
def Keeps (X : Cx) (W : WX) (x : Str) (sp : Sp) : Prop := ∀ (e : Expr) (es : List Expr) (t : TA) (p pos : Pos), PA X (e :: es) t → starEach (e :: es) X.env = (false, eval e X.env) :: starEach es X.env → (backTo pos (starEach es X.env)).any (·.1) = false →
  PE X (.Call (.Name x p) (e :: es) [] pos) (tCallS sp (WE W) t)
variable {x : Str} {p : Pos} {fl : List Bool} {m : List D → R D}
theorem Cal.keeps {j k : Nat} (C : Cal X.prog X.w X.K X.mg X.base x k fl m) (hr : Room j X.A) (tk : Takes X W) (hk : k ≤ j) (hg : Gl X x) (hdb : (x == ("__debug__" : Str)) = false) : Keeps X W x (spF X.K fl m) := fun e es t p pos ha he hpl => by
  obtain ⟨f, fd, ps, F0, h1, h2, h3⟩ := C.ex
  exact pe_callS F0 (hr.mono hk) hg h1 h2 h3 (fun σ => passAt tk σ) ha hdb he hpl
theorem CalN.keeps {j k : Nat} (C : CalN X.prog X.w X.K X.mg X.base x k fl m) (hr : Room j X.A) (tk : Takes X W) (hk : k ≤ j) (hg : Gl X x) (hdb : (x == ("__debug__" : Str)) = false) : Keeps X W x (spN X.K fl m) := fun e es t p pos ha he hpl => by
  obtain ⟨f, fd, ps, F0, h1, h2, h3⟩ := C.ex
  exact pe_callS F0 (hr.mono hk) hg h1 h2 h3 (fun σ => passAt tk σ) ha hdb he hpl
/-- own lists lent; what comes back holds no list -/
theorem ve_lendK (C : Keeps X W x (spF X.K fl m)) (hfl : fl = List.replicate fl.length true) (hm : ∀ ds d, m ds = .ok d → ds.length = fl.length) (hme : ∀ ds c p, m ds = .er c p → ds.length = fl.length) (ha : VAL X W A H0 (e :: es) fs) (he : starEach (e :: es) X.env = (false, eval e X.env) :: starEach es X.env) (hpl : (backTo pos (starEach es X.env)).any (·.1) = false) :
    VE X W A H0 (.Call (.Name x p) (e :: es) [] pos) (f1 lfD (fA m fs)) := pe_imp (C e es _ p pos ha he hpl) fun σ H Q ⟨env, I, rl, q⟩ => ⟨env, I, rl, by
  have q1 : PostE X.K W σ I H (((fs env).bind m).bind lfD) Q := q
  cases hs : fs env with
  | er c p => rw [hs] at q1; exact q1
  | no => rw [hs] at q1; exact q1.elim
  | ok ds =>
    rw [hs] at q1
    have q2 : PostE X.K W σ I H ((m ds).bind lfD) Q := q1
    intro vs I1 H1 g1 k1
    have a1 := k1.ok g1.ih
    cases hmd : m ds with
    | no => rw [hmd] at q2; exact q2.elim
    | er c p =>
      rw [hmd] at q2
      refine ⟨ds, lend I1 H1, lend_h g1.ih, by rw [hfl, ← hme ds c p hmd]; exact a1, ?_⟩
      rw [hmd]
      exact fun cls od I2 H2 g2 k2 => q2 cls od _ H2 (g1.trans (back_grow g1.ih g2)) (k2.back lend_i g2.i (fun _ _ z => lend_new z))
    | ok d =>
      rw [hmd] at q2
      refine ⟨ds, lend I1 H1, lend_h g1.ih, by rw [hfl, ← hm ds d hmd]; exact a1, ?_⟩
      rw [hmd]
      have q3 : PostE X.K W σ I H (if lf d then R.ok d else R.no) Q := q2
      by_cases hl : lf d = true
      · rw [if_pos hl] at q3
        exact fun v I2 H2 g2 k2 => q3 v _ H2 (g1.trans (back_grow g1.ih g2)) (k2.back lend_i g2.i (fun _ _ z => lend_new z) hl)
      · rw [if_neg hl] at q3
        exact q3.elim⟩
end
section
variable {X : Cx} {W : WX} {A H0 : Hp} {e : Expr} {es : List Expr} {fs : FA} {p pos : Pos} {x : Str} {j k n : Nat} {fl : List Bool} {m : List D → R D}
end
end BW
/-! BCore16: the class Web. -/
namespace BW
open PySem PySem.Spec PyProof.Rows L2
open Evl (Ex Ex.refl Ex.trans Ex.new ex_rd ex_l ex_t)
/-! ### what making a Web tells -/
def pairD : D → Option (Int × Int)
  | .tup [.int a, .int b] => some (a, b)
  | _ => none
def pairsD : List D → Option (List (Int × Int))
  | [] => some []
  | d :: r => match pairD d, pairsD r with
    | some p, some ps => some (p :: ps)
    | _, _ => none
def tiesD : D → Option (List (Int × Int))
  | .lst l => pairsD l
  | .tup l => pairsD l
  | _ => none
def encP (p : Int × Int) : D := .tup [.int p.1, .int p.2]
/-- a web as it is told -/
def webO (many : Int) (ts : List (Int × Int)) : D := .obj 0 [.int many, .tup (ts.map encP)]
def badMany (many : Int) (ts : List (Int × Int)) : Bool := decide (many < 1) || (decide (20 < many) || decide (40 < (ts.length : Int)))
def badEnd (many : Int) (e : Int) : Bool := decide (e < 0) || decide (many ≤ e)
def badTie (many : Int) (t : Int × Int) : Bool := badEnd many t.1 || badEnd many t.2
def webD : List D → R D
  | [.int many, d] => match tiesD d with
    | some ts => if badMany many ts then .er 4 [] else if ts.any (badTie many) then .er 3 [] else .ok (webO many ts)
    | none => .no
  | _ => .no
theorem pairD_inv {d : D} {p : Int × Int} (h : pairD d = some p) : d = encP p := by
  unfold pairD at h
  split at h
  · cases h; rfl
  · cases h
theorem pairsD_inv : ∀ {l : List D} {ps : List (Int × Int)}, pairsD l = some ps → l = ps.map encP
  | [], ps, h => by cases h; rfl
  | d :: r, ps, h => by
    unfold pairsD at h
    split at h
    · rename_i p qs h1 h2
      cases h
      rw [pairD_inv h1, pairsD_inv h2]
      rfl
    · cases h
theorem pairsD_map : ∀ ps : List (Int × Int), pairsD (ps.map encP) = some ps
  | [] => rfl
  | p :: ps => by
    show (match pairD (encP p), pairsD (ps.map encP) with | some p, some ps => some (p :: ps) | _, _ => none) = _
    rw [pairsD_map ps]
    rfl
theorem tiesD_inv {d : D} {ps : List (Int × Int)} (h : tiesD d = some ps) : (d = .lst (ps.map encP) ∨ d = .tup (ps.map encP)) := by
  unfold tiesD at h
  split at h
  · exact .inl (congrArg D.lst (pairsD_inv h))
  · exact .inr (congrArg D.tup (pairsD_inv h))
  · cases h
/-! ### the def's two first statements, and what it stores -/
def webG1 : G := gIf (fOr (f2 ltD (fI 1) (fC (.int 1))) (fOr (f2 gtD (fI 1) (fC (.int 20))) (f2 gtD (fA lenD (aCons (fI 2) aNil)) (fC (.int 40))))) (gRaise 4) gNext
def webB1 : G := gIf (fOr (f2 ltD (fI 4) (fC (.int 0))) (f2 geD (fI 4) (fI 1))) (gRaise 3) gNext
def webB2 : G := gFor (f1 seqD (fI 3)) (tN 4) webB1
def webG2 : G := gFor (f1 seqD (fI 2)) (tN 3) webB2
def webY : F := fA tupD (aCons (f2 ixD (fI 3) (fC (.int 0))) (aCons (f2 ixD (fI 3) (fC (.int 1))) aNil))
def webT : F := f1 tplD (fLc (f1 seqD (fI 2)) (tN 3) (fC (.bl true)) webY [3])
section
variable {s d : D} {many : Int} {ts : List (Int × Int)}
theorem tiesD_seq (h : tiesD d = some ts) : seqD d = .ok (.lst (ts.map encP)) := by
  rcases tiesD_inv h with rfl | rfl <;> rfl
theorem tiesD_len (h : tiesD d = some ts) : lenD [d] = .ok (.int (ts.length : Nat)) := by
  rcases tiesD_inv h with rfl | rfl <;> simp
theorem webG1_t (h : tiesD d = some ts) (x3 x4 : Sl) : webG1 [.im s, .im (.int many), .im d, x3, x4] = cond (badMany many ts) (.er [.im s, .im (.int many), .im d, x3, x4] 4 []) (.nx [.im s, .im (.int many), .im d, x3, x4]) := by
  unfold webG1 badMany
  simp only [s_gIf, s_fOr, s_f2, s_fA, s_aCons, s_aNil, s_fC, s_fI0, s_fIs, b2_ok, cn_ok, s_lt, s_gt, r_bind_ok, tiesD_len h, orr_ok, s_blR, cond_bl, scnd_ok, s_gRaise, s_gNext]
  cases decide (many < 1) <;> cases decide (20 < many) <;> rfl
theorem webB1_t (x2 x3 : Sl) (e : Int) : webB1 [.im s, .im (.int many), x2, x3, .im (.int e)] = cond (badEnd many e) (.er [.im s, .im (.int many), x2, x3, .im (.int e)] 3 []) (.nx [.im s, .im (.int many), x2, x3, .im (.int e)]) := by
  unfold webB1 badEnd
  simp only [s_gIf, s_fOr, s_f2, s_fC, s_fI0, s_fIs, b2_ok, s_lt, s_ge, r_bind_ok, orr_ok, s_blR, cond_bl, scnd_ok, s_gRaise, s_gNext]
  cases decide (e < 0) <;> rfl
theorem webB2_t (x2 x4 : Sl) (t : Int × Int) : (badTie many t = true ∧ ∃ e, webB2 [.im s, .im (.int many), x2, .im (encP t), x4] = .er e 3 []) ∨ (badTie many t = false ∧ ∃ y4, webB2 [.im s, .im (.int many), x2, .im (encP t), x4] = .nx [.im s, .im (.int many), x2, .im (encP t), y4]) := by
  obtain ⟨a, b⟩ := t
  have e : webB2 [.im s, .im (.int many), x2, .im (encP (a, b)), x4] = match webB1 [.im s, .im (.int many), x2, .im (encP (a, b)), .im (.int a)] with
      | .nx e => forF (tN 4) webB1 [.int b] e | .ct e => forF (tN 4) webB1 [.int b] e | .bk e => .nx e | r => r := rfl
  rw [e, webB1_t]
  unfold badTie
  cases h1 : badEnd many a with
  | true => exact .inl ⟨rfl, _, rfl⟩
  | false =>
    have e2 : forF (tN 4) webB1 [.int b] [.im s, .im (.int many), x2, .im (encP (a, b)), .im (.int a)] = match webB1 [.im s, .im (.int many), x2, .im (encP (a, b)), .im (.int b)] with
      | .nx e => .nx e | .ct e => .nx e | .bk e => .nx e | r => r := rfl
    show (_ ∧ ∃ e, forF (tN 4) webB1 [.int b] [.im s, .im (.int many), x2, .im (encP (a, b)), .im (.int a)] = _) ∨ (_ ∧ ∃ y4, forF (tN 4) webB1 [.int b] [.im s, .im (.int many), x2, .im (encP (a, b)), .im (.int a)] = _)
    rw [e2, webB1_t]
    cases h2 : badEnd many b with
    | true => exact .inl ⟨rfl, _, rfl⟩
    | false => exact .inr ⟨rfl, _, rfl⟩
theorem webG2_t (h : tiesD d = some ts) (x3 x4 : Sl) : (ts.any (badTie many) = true ∧ ∃ e, webG2 [.im s, .im (.int many), .im d, x3, x4] = .er e 3 []) ∨ (ts.any (badTie many) = false ∧ ∃ y3 y4, webG2 [.im s, .im (.int many), .im d, x3, x4] = .nx [.im s, .im (.int many), .im d, y3, y4]) := by
  have e : webG2 [.im s, .im (.int many), .im d, x3, x4] = forF (tN 3) webB2 (ts.map encP) [.im s, .im (.int many), .im d, x3, x4] := by
    unfold webG2
    simp only [s_gFor, s_f1, s_fI0, s_fIs, r_bind_ok, tiesD_seq h, fo_ok]
  rw [e]
  clear e h
  induction ts generalizing x3 x4 with
  | nil => exact .inr ⟨rfl, _, _, rfl⟩
  | cons t r ih =>
    have e : forF (tN 3) webB2 ((t :: r).map encP) [.im s, .im (.int many), .im d, x3, x4] = match webB2 [.im s, .im (.int many), .im d, .im (encP t), x4] with
      | .nx e => forF (tN 3) webB2 (r.map encP) e | .ct e => forF (tN 3) webB2 (r.map encP) e | .bk e => .nx e | r => r := rfl
    rw [e, List.any_cons]
    rcases webB2_t (s := s) (many := many) (.im d) x4 t with ⟨h1, e1, h2⟩ | ⟨h1, y4, h2⟩
    · rw [h2, h1]; exact .inl ⟨rfl, _, rfl⟩
    · rw [h2, h1, Bool.false_or]
      exact ih _ _
theorem webT_t (h : tiesD d = some ts) (hz : ts.length ≤ 16777216) (x3 x4 : Sl) : webT [.im s, .im (.int many), .im d, x3, x4] = .ok (.tup (ts.map encP)) := by
  unfold webT
  have k : fLc (f1 seqD (fI 2)) (tN 3) (fC (.bl true)) webY [3] [.im s, .im (.int many), .im d, x3, x4] = .ok (.lst (ts.map encP)) := by
    refine fLc_e (ds := ts.map encP) (by simp [tiesD_seq h]) (by rw [List.length_map]; exact hz) ?_
    exact lcF_map ts encP encP fun t ht => ⟨_, rfl, rfl⟩
  rw [s_f1, k]
  rfl
end
end BW
/-! BCore17: a Web is made. -/
namespace BW
open PySem PySem.Spec PyProof.Rows L2
open Evl (Ex Ex.refl Ex.trans Ex.new ex_rd ex_l ex_t)
/-- what __init__ is promised and promises: x the new instance -/
def spI (K : PySem.W.Frag) : Sp := fun vs H Q E => ∃ (x dx : Addr) (v1 v2 : V) (d1 d2 : D) (H1 I : Hp), vs = [.ref x, v1, v2] ∧ H1 x = none ∧ H1 dx = none ∧ dx ≠ x ∧ H = upd (upd H1 dx (.own x)) x (.ins (CL K 0) dx []) ∧ Ex I H1 ∧ ArgsOk K I H1 [true, true] [v1, v2] [d1, d2] ∧
  match webD [d1, d2] with
  | .ok d => ∀ I' H', Grow I H1 I' H' → Rd K I' (.ref x) d → Q .non H'
  | .er c p => ∀ cls od I' H', Grow I H1 I' H' → ErrIs K c p cls od I' → E cls od H'
  | .no => False
section
variable {P : Program} {w : World} {K : PySem.W.Frag} {mg : Str → Option Value} {base : Heap}
theorem relW {I H1 : Hp} {x dx : Addr} {v1 v2 : V} {d1 d2 : D} (ie : Ex I (upd (upd H1 dx (.own x)) x (.ins (CL K 0) dx []))) (h1 : Rd K I v1 d1) (h2 : Rd K I v2 d2) :
    Rel K I (upd (upd H1 dx (.own x)) x (.ins (CL K 0) dx [])) [.im (.adr x), .im d1, .im d2, .no, .no] (L2.start nWeb [.ref x, v1, v2]) I (upd (upd H1 dx (.own x)) x (.ins (CL K 0) dx [])) := by
  have a : ArgsOk K I (upd (upd H1 dx (.own x)) x (.ins (CL K 0) dx [])) [true, true, true] [.ref x, v1, v2] [.adr x, d1, d2] := .st .adr (.st h1 (.st h2 .nil))
  exact rel0 (N := nWeb) ie a (by decide)
/-- a new base at a state between two stores -/
theorem Rel.rebase {A H0 I H : Hp} {σ : L2.St} {H' : Hp} {d0 d1 d2 : D} {x3 x4 : Sl} (r : Rel K A H0 [.im d0, .im d1, .im d2, x3, x4] σ I H) (e : Ex I H') : Rel K I H' [.im d0, .im d1, .im d2, .no, .no] σ I H' := by
  have im : ∀ (i : Nat) (d : D), ([.im d0, .im d1, .im d2, .no, .no] : En)[i]? = some (Sl.im d) → ∃ v, σ[i]? = some (some v) ∧ Rd K I v d := fun i d h => by
    match i, h with
    | 0, h => exact r.im 0 d h
    | 1, h => exact r.im 1 d h
    | 2, h => exact r.im 2 d h
    | 3, h => cases h
    | 4, h => cases h
    | n + 5, h => cases h
  have nm : ∀ (i : Nat) (l : List D), ([.im d0, .im d1, .im d2, .no, .no] : En)[i]? ≠ some (Sl.mu l) := fun i l h => by
    match i, h with
    | 0, h => cases h
    | 1, h => cases h
    | 2, h => cases h
    | 3, h => cases h
    | 4, h => cases h
    | n + 5, h => cases h
  have nb : ∀ (i : Nat) (d : D), ([.im d0, .im d1, .im d2, .no, .no] : En)[i]? ≠ some (Sl.bo d) := fun i l h => by
    match i, h with
    | 0, h => cases h
    | 1, h => cases h
    | 2, h => cases h
    | 3, h => cases h
    | 4, h => cases h
    | n + 5, h => cases h
  have no : ∀ (i : Nat) (d : Ow), ([.im d0, .im d1, .im d2, .no, .no] : En)[i]? ≠ some (Sl.ow d) := fun i d h => by
    match i, h with
    | 0, h => cases h
    | 1, h => cases h
    | 2, h => cases h
    | 3, h => cases h
    | 4, h => cases h
    | n + 5, h => cases h
  have nd : ∀ (i : Nat) (ks : List Int) (l : List D), ([.im d0, .im d1, .im d2, .no, .no] : En)[i]? ≠ some (Sl.md ks l) := fun i ks l h => by
    match i, h with
    | 0, h => cases h
    | 1, h => cases h
    | 2, h => cases h
    | 3, h => cases h
    | 4, h => cases h
    | n + 5, h => cases h
  exact ⟨Grow.refl e, r.len, im, fun i l h => absurd h (nm i l), fun i d h => absurd h (nb i d), fun i j l m a h => absurd h (nm i l), fun i ks l h => absurd h (nd i ks l), fun i j ks ls l m a h => absurd h (nd i ks l), fun i d h => absurd h (no i d), DkI.none fun i o d h => by
    match i, h with
    | 0, h => cases h
    | 1, h => cases h
    | 2, h => cases h
    | 3, h => cases h
    | 4, h => cases h
    | n + 5, h => cases h⟩
theorem ps_ex {X : Cx} {st : Stmt} {α : Type} {t : α → TS} (h : ∀ a, PS X st (t a)) : PS X st (fun D σ H => ∃ a, t a D σ H) := ⟨fun pins s σ H D I ⟨a, q⟩ => (h a).run pins s σ H D I q⟩
theorem web_init {qual : Str} {st s1 s2 s3 s4 : Stmt} {f : Addr} {fd : FuncData} {k : Nat} (F0 : Fn K "__init__" qual st f fd) (S : FnScope nWeb ["self", "many", "ties"] (defScope st)) (hb : defBody st = [s1, s2, s3, s4]) (cl : Cls K (CL K 0)) (n1 : NoAttr K (CL K 0) "many") (n2 : NoAttr K (CL K 0) "ties")
    (body : ∀ (cdv : Value) (A : Around) (outer : List PySem.Env) (s : Shared) (H : Hp) (E : XK), Room k (A.deeper (envOfC qual (defScope st) s.heap.objs.size f cdv)) → Takes (Cb P w K mg base nWeb qual st f cdv A outer s H E) (WB E) →
      PassesOwn (model P w) (A.deeper (envOfC qual (defScope st) s.heap.objs.size f cdv)) (envOfC qual (defScope st) s.heap.objs.size f cdv) (Cb P w K mg base nWeb qual st f cdv A outer s H E).xe →
      (∀ A0 H0, VS (Cb P w K mg base nWeb qual st f cdv A outer s H E) (WB E) A0 H0 false s1 webG1) ∧ (∀ A0 H0, VS (Cb P w K mg base nWeb qual st f cdv A outer s H E) (WB E) A0 H0 false s2 webG2) ∧
      (∀ A0 H0, PS (Cb P w K mg base nWeb qual st f cdv A outer s H E) s3 (sFld K (rdE K (WB E) A0 H0 (fI 0)) (rdE K (WB E) A0 H0 (fI 1)) "many")) ∧
      (∀ A0 H0, PS (Cb P w K mg base nWeb qual st f cdv A outer s H E) s4 (sFld K (rdE K (WB E) A0 H0 (fI 0)) (rdE K (WB E) A0 H0 webT) "ties"))) :
    FnOk P w K mg base (L2.CX P w) (k + 1) f fd ["self", "many", "ties"] (spI K) := by
  refine F0.ok S (fun vs H Q E ⟨x, dx, v1, v2, d1, d2, H1, I, e, _⟩ => by rw [e]; rfl) fun cdv A outer s H vs Q E hr h => ?_
  obtain ⟨x, dx, v1, v2, d1, d2, H1, I, rfl, hx, hdx, hne, rfl, ie, ha, q⟩ := h
  obtain ⟨b1, b2, b3, b4⟩ := body cdv A outer s _ E hr (takes_of rfl rfl rfl rfl) (passes_of rfl)
  obtain ⟨h1, h2⟩ : Rd K I v1 d1 ∧ Rd K I v2 d2 := by
    cases ha with
    | st h1 r => cases r with
      | st h2 r => exact ⟨h1, h2⟩
  -- the shapes of the arguments
  cases d1 <;> try (exact q.elim)
  rename_i many
  have q' : (match (match tiesD d2 with
    | some ts => if badMany many ts then R.er 4 [] else if ts.any (badTie many) then R.er 3 [] else R.ok (webO many ts)
    | none => R.no) with
    | .ok d => ∀ I' H', Grow I H1 I' H' → Rd K I' (.ref x) d → Q .non H'
    | .er c p => ∀ cls od I' H', Grow I H1 I' H' → ErrIs K c p cls od I' → E cls od H'
    | .no => False) := q
  cases ht : tiesD d2 with
  | none => rw [ht] at q'; exact q'.elim
  | some ts =>
    rw [ht] at q'
    -- the heap with the empty instance
    have e12 : Ex H1 (upd (upd H1 dx (.own x)) x (.ins (CL K 0) dx [])) := fun a u z => by
      have na : a ≠ x := fun e => by rw [e, hx] at z; cases z
      have nd : a ≠ dx := fun e => by rw [e, hdx] at z; cases z
      rw [upd_ne na, upd_ne nd]
      exact z
    have back1 : ∀ {I' H'}, Grow I (upd (upd H1 dx (.own x)) x (.ins (CL K 0) dx [])) I' H' → Grow I H1 I' H' := fun {I' H'} g => ⟨g.i, e12.trans g.h, g.ih, fun a o z => (g.new a o z).elim .inl fun n => .inr (Evl.fresh_back e12 n)⟩
    refine ⟨_, hb ▸ pss_cons (b1 I (upd (upd H1 dx (.own x)) x (.ins (CL K 0) dx []))) (pss_cons (b2 I (upd (upd H1 dx (.own x)) x (.ins (CL K 0) dx []))) (pss_cons (b3 I (upd (upd H1 dx (.own x)) x (.ins (CL K 0) dx []))) (pss_one (ps_ex fun A0 => ps_ex fun H0 => b4 A0 H0)))), ?_⟩
    refine ⟨_, I, relW (ie.trans e12) h1 h2, ?_⟩
    rw [webG1_t ht]
    have q2 : (match (if badMany many ts then R.er 4 [] else if ts.any (badTie many) then R.er 3 [] else R.ok (webO many ts)) with
      | .ok d => ∀ I' H', Grow I H1 I' H' → Rd K I' (.ref x) d → Q .non H'
      | .er c p => ∀ cls od I' H', Grow I H1 I' H' → ErrIs K c p cls od I' → E cls od H'
      | .no => False) := q'
    cases hm : badMany many ts with
    | true =>
      rw [hm] at q2
      exact fun σ' I' H' cls od r _ kk => q2 cls od I' H' (back1 r.g) kk
    | false =>
      rw [hm] at q2
      intro σ1 I1 Ha r1 _
      refine ⟨_, I1, r1, ?_⟩
      rcases webG2_t (s := .adr x) (many := many) ht .no .no with ⟨h3, e, h4⟩ | ⟨h3, y3, y4, h4⟩
      · rw [h4]
        rw [h3] at q2
        exact fun σ' I' H' cls od r _ kk => q2 cls od I' H' (back1 r.g) kk
      · rw [h4]
        rw [h3] at q2
        have q3 : ∀ I' H', Grow I H1 I' H' → Rd K I' (.ref x) (webO many ts) → Q .non H' := q2
        intro σ2 I2 Hb r2 _
        -- self.many = many
        refine ⟨_, I2, r2, ?_⟩
        intro u I3 H3 g3 k3
        refine ⟨_, I3, r2.grow g3, ?_⟩
        intro u2 I4 H4 g4 k4
        have r4 := (r2.grow g3).grow g4
        obtain ⟨ux, hux, hx4⟩ := r4.im 0 (.adr x) rfl
        have hx0 : u2 = .ref x := by cases k4; rfl
        have get4 : H4 x = some (.ins (CL K 0) dx []) := r4.g.h _ _ upd_same
        refine ⟨x, CL K 0, dx, [], hx0, get4, cl, n1, by decide, ?_⟩
        -- self.ties = ..
        have i4x : I4 x = none := by
          cases z : I4 x with
          | none => rfl
          | some o =>
            rcases r4.g.new x o z with z2 | z2
            · have := ie _ _ z2
              rw [hx] at this
              cases this
            · rw [upd_same] at z2; cases z2
        have e5 : Ex I4 (upd H4 x (.ins (CL K 0) dx (putF "many" u []))) := fun a o z => by
          have na : a ≠ x := fun e => by rw [e, i4x] at z; cases z
          rw [upd_ne na]
          exact r4.g.ih _ _ z
        have r5 := r4.rebase e5
        refine ⟨I4, upd H4 x (.ins (CL K 0) dx (putF "many" u [])), _, I4, r5, ?_⟩
        have hz : ts.length ≤ 16777216 := by
          have : badMany many ts = false := hm
          unfold badMany at this
          simp at this
          omega
        rw [webT_t ht hz]
        intro u6 I6 H6 g6 k6
        refine ⟨_, I6, r5.grow g6, ?_⟩
        intro u7 I7 H7 g7 k7
        have hx7 : u7 = .ref x := by cases k7; rfl
        have g67 := g6.trans g7
        have get7 : H7 x = some (.ins (CL K 0) dx (putF "many" u [])) := g67.h _ _ upd_same
        refine ⟨x, CL K 0, dx, _, hx7, get7, cl, n2, (show (1 : Nat) < 1000 by decide), ?_⟩
        have i7x : I7 x = none := by
          cases z : I7 x with
          | none => rfl
          | some o =>
            rcases g67.new x o z with z2 | z2
            · rw [i4x] at z2; cases z2
            · rw [upd_same] at z2; cases z2
        have h4g : Grow I H1 I4 H4 := back1 r4.g
        refine q3 (upd I7 x (.ins (CL K 0) dx (putF "ties" u6 (putF "many" u [])))) _ ⟨h4g.i.trans (g67.i.trans (Ex.new i7x)), fun a o z => ?_, fun a o z => ?_, fun a o z => ?_⟩ ?_
        · have na : a ≠ x := fun e => by rw [e, hx] at z; cases z
          rw [upd_ne na]
          refine g67.h _ _ ?_
          rw [upd_ne na]
          exact h4g.h _ _ z
        · by_cases na : a = x
          · subst na; rw [upd_same] at z ⊢; exact z
          · rw [upd_ne na] at z ⊢; exact g67.ih _ _ z
        · by_cases na : a = x
          · subst na; exact .inr hx
          · rw [upd_ne na] at z
            rcases g67.new a o z with z2 | z2
            · exact h4g.new a o z2
            · rw [upd_ne na] at z2
              exact .inr (Evl.fresh_back h4g.h z2)
        · have kk : RdA K (upd I7 x (.ins (CL K 0) dx (putF "ties" u6 (putF "many" u [])))) [u, u6] [.int many, .tup (ts.map encP)] := .cons (k3.mono (g4.i.trans (g67.i.trans (Ex.new i7x)))) (.cons (k6.mono (g7.i.trans (Ex.new i7x))) .nil)
          exact Rd.obj (c := 0) (vs := [u, u6]) upd_same rfl kk
end
/-! ### the call -/
section
variable {X : Cx} {CX : CXT} {k : Nat} {f C : Addr} {fd : FuncData} {ps : List Str} {sp : Sp} {E : L2.St → XK}
/-- a class called: what is let out may hang on the slots -/
theorem make_run {pins : List (Addr × Obj)} {σ : L2.St} {H : Hp} {s : Shared} {Q : VK} {us : List Value} {vs : List V} (hm : Mk X.K C f) (ok : FnOk X.prog X.w X.K X.mg X.base CX k f fd ps sp) (room : Room (k + 1) X.A) (bnd : Binds X.K fd ps []) (out : PassesAt CX X σ (E σ)) (inv : Inv X pins σ H s) (rel : Vals vs us)
    (q : ∀ x dx, H x = none → H dx = none → dx ≠ x → sp (.ref x :: vs) (upd (upd H dx (.own x)) x (.ins C dx [])) (fun v H2 => v = .non ∧ Q (.ref x) H2) (E σ)) : wpAny (model X.prog X.w) X.A (call (.ref C) us) (EP X pins σ Q) X.xe s := by
  let n := s.heap.objs.size
  have free : ∀ a, n ≤ a → H a = none := fun a ha => inv.hok.fresh ha
  have q0 := q (n + 1) n (free _ (Nat.le_succ n)) (free _ (Nat.le_refl n)) (Nat.ne_of_lt (Nat.lt_succ_self n))
  have inv2 := Inv.made (C := C) inv
  have rel2 : Vals (V.ref (n + 1) :: vs) (Value.ref (n + 1) :: us) := .cons rfl rel
  have len : (Value.ref (n + 1) :: us).length = ps.length := rel2.length.symm.trans (ok.len _ _ _ _ q0)
  have bt := bnd _ (Value.ref (n + 1) :: us) inv2.kIn (by rw [List.append_nil]; exact len)
  rw [List.append_nil] at bt
  have run := ok.run _ X.stack _ _ ⟨Value.ref (n + 1) :: us, []⟩ (Value.ref (n + 1) :: us) _ _ (E σ) (room.make C us []) (inv2.env0.make C us []) bt rel2 q0
  refine wpAny_call (make_map (f := f) inv.kIn hm.makes hm.init (beq_iff_eq.mp hm.fn) (codeAny_mono run fun r t hr => ?_))
  match r, hr with
  | .error e, hr => exact out pins _ _ e t inv2 hr
  | .ok (.ret u), hr =>
    obtain ⟨v, H', inv3, rv, ev, q3⟩ := inv2.after hr
    subst ev
    exact ⟨rv, V.ref (n + 1), H', inv3, rfl, q3⟩
end
section
variable {X : Cx} {W : WX} {k j : Nat} {f : Addr} {fd : FuncData}
/-- what a law's text must tell of the class -/
structure WebC (P : Program) (w : World) (K : PySem.W.Frag) (mg : Str → Option Value) (base : Heap) (k : Nat) : Prop where
  ex : ∃ (f : Addr) (fd : FuncData), Mk K (CL K 0) f ∧ FnOk P w K mg base (L2.CX P w) k f fd ["self", "many", "ties"] (spI K) ∧ mg "Web" = some (.ref (CL K 0)) ∧ Binds K fd ["self", "many", "ties"] []
theorem WebC.keeps (C : WebC X.prog X.w X.K X.mg X.base k) (hr : Room j X.A) (tk : Takes X W) (hk : k + 1 ≤ j) (hg : Gl X "Web") : Keeps X W "Web" (spF X.K [true, true] webD) := fun e es t p pos ha he hpl => by
  obtain ⟨f, fd, hm, ok, h1, hb⟩ := C.ex
  refine ⟨fun pins s σ H Q I h => ?_⟩
  refine wpAny_Call_Name_kw (ld_glob I hg h1 ?_ (by decide))
  refine PySem.W.callWith_K (h₀ := X.base) I.ok.mod.kin hm.kp (thn (ha.run pos pins s σ H _ I h) fun us s1 ⟨vs, H1, I1, r, q⟩ => ⟨I1.kIn, ?_⟩) he hpl
  obtain ⟨ds, I0, ie, ao, q2⟩ := q
  refine make_run (E := WE W) hm ok (hr.mono hk) hb (passAt tk σ) I1 r fun x dx hx hdx hne => ?_
  cases ao with
  | @st v1 d1 _ vs1 ds1 a1 a2 => cases a2 with
    | @st v2 d2 _ vs2 ds2 b1 b2 =>
      cases b2
      refine ⟨x, dx, v1, v2, d1, d2, H1, I0, rfl, hx, hdx, hne, rfl, ie, .st a1 (.st b1 .nil), ?_⟩
      cases hw : webD [d1, d2] with
      | no => rw [hw] at q2; exact q2.elim
      | er c p => rw [hw] at q2; exact q2
      | ok d => rw [hw] at q2; exact fun I' H' g rd => ⟨rfl, q2 _ I' H' g rd⟩
end
theorem webD_len : (∀ ds d, webD ds = .ok d → ds.length = [true, true].length) ∧ ∀ ds c p, webD ds = .er c p → ds.length = [true, true].length := by
  constructor
  all_goals
    intro ds
    intros
    rename_i h
    unfold webD at h
    split at h
    · rfl
    · cases h
section
variable {X : Cx} {W : WX} {A H0 : Hp} {e : Expr} {es : List Expr} {fs : FA} {p pos : Pos} {j k : Nat}
theorem ve_web (C : WebC X.prog X.w X.K X.mg X.base k) (hr : Room j X.A) (tk : Takes X W) (ha : VAL X W A H0 (e :: es) fs) (hk : k + 1 ≤ j := by decide) (hg : Gl X "Web" := by rfl) (he : starEach (e :: es) X.env = (false, eval e X.env) :: starEach es X.env := by rfl) (hpl : (backTo pos (starEach es X.env)).any (·.1) = false := by rfl) :
    VE X W A H0 (.Call (.Name "Web" p) (e :: es) [] pos) (f1 lfD (fA webD fs)) := ve_lendK (C.keeps hr tk hk hg) rfl webD_len.1 webD_len.2 ha he hpl
end
theorem lf_encP (l : List (Int × Int)) : lfA (l.map encP) = true := by
  induction l with
  | nil => rfl
  | cons a r ih =>
    show (lf (encP a) && lfA (r.map encP)) = true
    rw [ih]
    rfl
@[simp] theorem lfD_web (many : Int) (ts : List (Int × Int)) : lfD (webO many ts) = .ok (webO many ts) := by
  refine if_pos ?_
  show (lf (.int many) && (lfA (ts.map encP) && true)) = true
  rw [lf_encP]
  rfl
end BW
/-! BCore18: more facts of the head; isinstance of own classes. -/
namespace BW
open PySem PySem.Spec PyProof.Rows L2
open Evl (Ex Ex.refl Ex.trans Ex.new ex_rd ex_l ex_t)
/-! ### the head's facts, and Bools of one's own -/
/-! ### what is asked of a class -/
structure ClsI (K : PySem.W.Frag) (C : Addr) : Prop where
  a : PySem.W.findIn K (.ref C) "__class__" = some (some (.builtin "object.__class__"))
  n : PySem.W.specialIn K (.builtin "object.__class__") "__get__" = some (some (.builtin "getset_descriptor.__get__"))
  t : PySem.W.takesIn K (.builtin "object.__class__") = some true
  m : PySem.W.mroIn K C (.type "object") = some true
theorem tCl_ok {x : Str} {K : PySem.W.Frag} (h : tCl x K = true) : ClsI K (He.ga K x) := by
  obtain ⟨h1, h⟩ := Bool.and_eq_true_iff.mp h
  obtain ⟨h2, h⟩ := Bool.and_eq_true_iff.mp h
  obtain ⟨h3, h4⟩ := Bool.and_eq_true_iff.mp h
  exact ⟨He.eqO_ok h1, He.eqO_ok h2, of_decide_eq_true h3, of_decide_eq_true h4⟩
theorem tEx_ok {x : Str} {K : PySem.W.Frag} (h : tEx x K = true) : ExcC K (He.ga K x) := by
  obtain ⟨h1, h⟩ := Bool.and_eq_true_iff.mp h
  obtain ⟨h2, h⟩ := Bool.and_eq_true_iff.mp h
  obtain ⟨h3, h⟩ := Bool.and_eq_true_iff.mp h
  obtain ⟨h4, h5⟩ := Bool.and_eq_true_iff.mp h
  have c := tCl_ok h5
  exact ⟨He.eqO_ok h1, He.eqO_ok h2, of_decide_eq_true h3, h4, c.a, c.n, c.t, c.m⟩
theorem tKit_ok {x : Str} {u : PySem.W.Frag → Value} {b : Bool} {K : PySem.W.Frag} (h : tKit x u b K = true) : PySem.W.kitOne K (.ref (He.ga K x)) (u K) = some b := of_decide_eq_true h
/-! ### isinstance(x, an own class) -/
/-- tb: by the class's number, the answer -/
def isoD (tb : List (Nat × Bool)) : D → R D
  | .obj c _ => if c ≤ 1 then (match tb.lookup c with
    | some b => .ok (.bl b)
    | none => .no) else .no
  | .exc c [] => if 1 < c then (match tb.lookup c with
    | some b => .ok (.bl b)
    | none => .no) else .no
  | _ => .no
/-- what such a table leans on -/
def IsoT (K : PySem.W.Frag) (u : Value) (tb : List (Nat × Bool)) : Prop := ∀ c b, tb.lookup c = some b → PySem.W.kitOne K (.ref (CL K c)) u = some b ∧ (c ≤ 1 → Cls K (CL K c) ∧ ClsI K (CL K c)) ∧ (1 < c → ExcC K (CL K c))
theorem isoT_nil {K : PySem.W.Frag} {u : Value} : IsoT K u [] := fun c b h => by cases h
theorem isoT_exc {K : PySem.W.Frag} {u : Value} {tb : List (Nat × Bool)} {c : Nat} {b : Bool} (h1 : PySem.W.kitOne K (.ref (CL K c)) u = some b) (h2 : ExcC K (CL K c)) (r : IsoT K u tb) (hc : 1 < c := by decide) : IsoT K u ((c, b) :: tb) := fun c' b' h => by
  rw [List.lookup_cons] at h
  cases z : c' == c with
  | true =>
    rw [z] at h
    have e := eq_of_beq z
    subst e
    cases h
    exact ⟨h1, fun q => absurd q (by omega), fun _ => h2⟩
  | false => rw [z] at h; exact r c' b' h
/-- isinstance(e, c), e an error that the heap tells of -/
def rIsX (K : PySem.W.Frag) : List V → Hp → VK → Prop := fun xs H Q => ∃ (a C : Addr) (c : V) (u : Value) (b : Bool), xs = [.ref a, c] ∧ H a = some (excO C none a) ∧ ExcC K C ∧ ClsV c u ∧ PySem.W.kitOne K (.ref C) u = some b ∧ Q (.bl b) H
theorem call_isX {X : Cx} : CallR X (.builtin "isinstance") (rIsX X.K) := by
  intro pins s σ H xs us Q I r h
  obtain ⟨a, C, c, u, b, rfl, ha, ex, hc, hk, q⟩ := h
  match us, r with
  | [ua, uc], .cons ra (.cons rc .nil) =>
    have ea : ua = .ref a := ra
    have ec : uc = u := hc.eq rc
    subst ea ec
    have o : ObjOk X.prog X.w H s.heap a (excO C none a) := I.hok a _ ha
    obtain ⟨⟨oe, hget, hz, vs, hv⟩, _⟩ := o
    have inst : PySem.W.InstAt s.heap a oe C none := by
      obtain ⟨h1, h2⟩ := hz
      obtain ⟨oc, od, oda, osl⟩ := oe
      have h1' : oc = .ref C := h1
      have h2' : od = none := h2
      have hv' : oda = .fields vs := hv
      subst h1' h2' hv'
      exact ⟨hget, rfl, rfl, trivial⟩
    exact PySem.W.kia_one (PySem.W.handS_kitx_exc ex.hg ex.hk ex.hs ex.hd ex.ha ex.hn ex.ht ex.hm) I.kIn inst hk (by intro z; cases z) fun tk => ⟨.bl b, H, I.kept (t' := tk) fun _ _ z => z, rfl, q⟩
section
variable {X : Cx} {W : WX} {A H0 : Hp} {a : Expr} {fa : F} {pos : Pos}
theorem iso_run {K : PySem.W.Frag} {σ : L2.St} {I H : Hp} {u : Value} {tb : List (Nat × Bool)} (T : IsoT K u tb) {cv : V} (hcv : ClsV cv u) {r : R D} {Q : VK} (q0 : PostE K W σ I H (r.bind (isoD tb)) Q) :
    PostE K W σ I H r fun v H1 => (rIsi K [v, cv] H1 Q) ∨ rIsX K [v, cv] H1 Q := by
  cases r with
  | er c p => exact q0
  | no => exact q0.elim
  | ok d =>
    intro v I1 H1 g1 k
    have q1 : PostE K W σ I H (isoD tb d) Q := q0
    cases d <;> try (exact q1.elim)
    · rename_i c l
      have q2 : PostE K W σ I H (if c ≤ 1 then (match tb.lookup c with | some b => R.ok (.bl b) | none => .no) else .no) Q := q1
      by_cases hc : c ≤ 1
      · rw [if_pos hc] at q2
        cases ht : tb.lookup c with
        | none => rw [ht] at q2; exact q2.elim
        | some b =>
          rw [ht] at q2
          obtain ⟨hk, h1, _⟩ := T c b ht
          obtain ⟨p, dx, vs, rfl, hp, hl, _⟩ := k.obj_inv
          obtain ⟨cl, ci⟩ := h1 hc
          exact .inl ⟨.ref p, cv, .ref (CL K c), u, b, rfl, hcv, .base (.ins (g1.ih _ _ hp) cl ci.a ci.n ci.t ci.m), hk, q2 _ I1 H1 g1 .bl⟩
      · rw [if_neg hc] at q2; exact q2.elim
    · rename_i c l
      cases l with
      | cons _ _ => exact q1.elim
      | nil =>
        have q2 : PostE K W σ I H (if 1 < c then (match tb.lookup c with | some b => R.ok (.bl b) | none => .no) else .no) Q := q1
        by_cases hc : 1 < c
        · rw [if_pos hc] at q2
          cases ht : tb.lookup c with
          | none => rw [ht] at q2; exact q2.elim
          | some b =>
            rw [ht] at q2
            obtain ⟨hk, _, h2⟩ := T c b ht
            obtain ⟨p, rfl, hp⟩ : ∃ p, v = .ref p ∧ I1 p = some (excO (CL K c) none p) := by
              cases k with
              | exc0 h => exact ⟨_, rfl, h⟩
            exact .inr ⟨p, CL K c, cv, u, b, rfl, g1.ih _ _ hp, h2 hc, hcv, hk, q2 _ I1 H1 g1 .bl⟩
        · rw [if_neg hc] at q2; exact q2.elim
/-- isinstance(x, C), C a class of the program -/
theorem ve_iso (y : Str) {Cy : Addr} {tb : List (Nat × Bool)} {p q : Pos} (T : IsoT X.K (.ref Cy) tb) (hm : X.mg "isinstance" = none) (hy : X.mg y = some (.ref Cy)) (ha : VE X W A H0 a fa) (hg : Gl X "isinstance" := by rfl) (hg2 : Gl X y := by rfl) (hdT : (y == ("__debug__" : Str)) = false := by decide)
    (hs : starEach (a :: [.Name y q]) X.env = (false, eval a X.env) :: starEach [.Name y q] X.env := by rfl) (hs2 : starEach (.Name y q :: []) X.env = (false, eval (.Name y q) X.env) :: starEach [] X.env := by rfl) (hpl : (backTo pos (starEach [.Name y q] X.env)).any (·.1) = false := by rfl) :
    VE X W A H0 (.Call (.Name "isinstance" p) [a, .Name y q] [] pos) (f1 (isoD tb) fa) :=
  pe_imp (pe_callB (CallR.or call_isi call_isX) hg hm (by decide +kernel) (pa_cons ha (pa_cons (pe_glob (v := .ref Cy) hg2 hy rfl hdT) pa_nil hs2) hs) (by decide) (by decide) hs hpl) fun σ H Q ⟨env, I, rl, q⟩ => ⟨env, I, rl, iso_run T (.own Cy) q⟩
/-- isinstance(x, T), T a built-in class, x an object or an error of the program -/
theorem ve_isoT (y : String) {tb : List (Nat × Bool)} {p q : Pos} (T : IsoT X.K (.type y) tb) (hm : X.mg "isinstance" = none) (hy : X.mg (Str.ofString y) = none) (hb : bootBuiltins (Str.ofString y) = some (.type y)) (ha : VE X W A H0 a fa) (hnT : Str.ofString y ≠ "__name__") (hg : Gl X "isinstance" := by rfl) (hg2 : Gl X (Str.ofString y) := by rfl) (hdT : (Str.ofString y == ("__debug__" : Str)) = false := by decide)
    (hs : starEach (a :: [.Name (Str.ofString y) q]) X.env = (false, eval a X.env) :: starEach [.Name (Str.ofString y) q] X.env := by rfl) (hs2 : starEach (.Name (Str.ofString y) q :: []) X.env = (false, eval (.Name (Str.ofString y) q) X.env) :: starEach [] X.env := by rfl) (hpl : (backTo pos (starEach [.Name (Str.ofString y) q] X.env)).any (·.1) = false := by rfl) :
    VE X W A H0 (.Call (.Name "isinstance" p) [a, .Name (Str.ofString y) q] [] pos) (f1 (isoD tb) fa) :=
  pe_imp (pe_callB (CallR.or call_isi call_isX) hg hm (by decide +kernel) (pa_cons ha (pa_cons (pe_bltn (v := .ty y) hg2 hy hb rfl hnT hdT) pa_nil hs2) hs) (by decide) (by decide) hs hpl) fun σ H Q ⟨env, I, rl, q⟩ => ⟨env, I, rl, iso_run T (.ty y) q⟩
end
end BW
/-! BCore19: a class's defs. -/
namespace BW
open PySem PySem.Spec PyProof.Rows L2
end BW
/-! BCore20: == of data; more rewriting. -/
namespace BW
open PySem PySem.Spec PyProof.Rows L2
mutual
/-- whole numbers and texts in lists and tuples, at most so deep -/
def pl : Nat → D → Bool
  | _, .int _ => true
  | k, .lst l => (match k with | 0 => false | k + 1 => plA k l)
  | k, .tup l => (match k with | 0 => false | k + 1 => plA k l)
  | _, .non => true
  | _, _ => false
def plA : Nat → List D → Bool
  | _, [] => true
  | k, d :: ds => pl k d && plA k ds
end
theorem plA_iff {k : Nat} {l : List D} : plA k l = true ↔ ∀ d ∈ l, pl k d = true := by
  induction l with
  | nil => simp [plA]
  | cons d r ih => simp [plA, ih]
mutual
theorem py_pl : ∀ (d : D) (k : Nat), pl k d = true → ∃ p, py d = some p ∧ PyData.canLay0 p = true ∧ p.depth ≤ k
  | .int i, k, _ => ⟨.int i, rfl, by first | rfl | simp [PyData.canLay0], by simp [PyData.depth]⟩
  | .non, k, _ => ⟨.none, rfl, by first | rfl | simp [PyData.canLay0], by simp [PyData.depth]⟩
  | .lst l, 0, h => by cases h
  | .tup l, 0, h => by cases h
  | .lst l, k + 1, h => by
    obtain ⟨ps, h1, h2, h3⟩ := py_plA' l k h
    exact ⟨.list ps, by show (pyA l).map PyData.list = _; rw [h1]; rfl, by simpa [PyData.canLay0] using h2, by simp only [PyData.depth]; omega⟩
  | .tup l, k + 1, h => by
    obtain ⟨ps, h1, h2, h3⟩ := py_plA' l k h
    exact ⟨.tuple ps, by show (pyA l).map PyData.tuple = _; rw [h1]; rfl, by simpa [PyData.canLay0] using h2, by simp only [PyData.depth]; omega⟩
  | .bl _, k, h => by cases k <;> cases h
  | .str _, k, h => by cases k <;> cases h
  | .scr _, k, h => by cases k <;> cases h
  | .obj _ _, k, h => by cases k <;> cases h
  | .exc _ _, k, h => by cases k <;> cases h
  | .dct _ _, k, h => by cases k <;> cases h
  | .dtt _ _, k, h => by cases k <;> cases h
  | .adr _, k, h => by cases k <;> cases h
theorem py_plA' : ∀ (l : List D) (k : Nat), plA k l = true → ∃ ps, pyA l = some ps ∧ PyData.canLayAll0 ps = true ∧ PyData.depthAll ps ≤ k
  | [], k, _ => ⟨[], rfl, by simp [PyData.canLayAll0], by simp [PyData.depthAll]⟩
  | d :: r, k, h => by
    obtain ⟨h1, h2⟩ := Bool.and_eq_true_iff.mp (show (pl k d && plA k r) = true from h)
    obtain ⟨p, e1, e2, e3⟩ := py_pl d k h1
    obtain ⟨ps, f1, f2, f3⟩ := py_plA' r k h2
    refine ⟨p :: ps, ?_, by simp [PyData.canLayAll0, e2, f2], by simp only [PyData.depthAll]; omega⟩
    show ((py d).bind fun x => (pyA r).map fun xs => x :: xs) = _
    rw [e1, f1]
    rfl
end
mutual
theorem eqv_pl : ∀ (a b : D) (k : Nat) (p q : PyData), pl k a = true → pl k b = true → py a = some p → py b = some q → (PyData.eqv p q = true ↔ a = b)
  | .int i, b, k, p, q, ha, hb, ea, eb => by
    cases ea
    cases b with
    | int j => cases eb; simp [PyData.eqv]
    | non => cases eb; simp [PyData.eqv]
    | lst l =>
      cases k with
      | zero => cases hb
      | succ k =>
        obtain ⟨ps, h1, _⟩ := py_plA' l k hb
        have e : (pyA l).map PyData.list = some q := eb
        rw [h1] at e; cases e; simp [PyData.eqv]
    | tup l =>
      cases k with
      | zero => cases hb
      | succ k =>
        obtain ⟨ps, h1, _⟩ := py_plA' l k hb
        have e : (pyA l).map PyData.tuple = some q := eb
        rw [h1] at e; cases e; simp [PyData.eqv]
    | _ => cases k <;> cases hb
  | .non, b, k, p, q, ha, hb, ea, eb => by
    cases ea
    cases b with
    | int j => cases eb; simp [PyData.eqv]
    | non => cases eb; simp [PyData.eqv]
    | lst l =>
      cases k with
      | zero => cases hb
      | succ k =>
        obtain ⟨ps, h1, _⟩ := py_plA' l k hb
        have e : (pyA l).map PyData.list = some q := eb
        rw [h1] at e; cases e; simp [PyData.eqv]
    | tup l =>
      cases k with
      | zero => cases hb
      | succ k =>
        obtain ⟨ps, h1, _⟩ := py_plA' l k hb
        have e : (pyA l).map PyData.tuple = some q := eb
        rw [h1] at e; cases e; simp [PyData.eqv]
    | _ => cases k <;> cases hb
  | .lst l, b, 0, p, q, ha, hb, ea, eb => by cases ha
  | .lst l, b, k + 1, p, q, ha, hb, ea, eb => by
    obtain ⟨ps, h1, _⟩ := py_plA' l k ha
    have e : (pyA l).map PyData.list = some p := ea
    rw [h1] at e; cases e
    cases b with
    | int j => cases eb; simp [PyData.eqv]
    | non => cases eb; simp [PyData.eqv]
    | lst m =>
      obtain ⟨qs, h2, _⟩ := py_plA' m k hb
      have e : (pyA m).map PyData.list = some q := eb
      rw [h2] at e; cases e
      have := eqvA_pl l m k ps qs ha hb h1 h2
      simp only [PyData.eqv, this, D.lst.injEq]
    | tup m =>
      obtain ⟨qs, h2, _⟩ := py_plA' m k hb
      have e : (pyA m).map PyData.tuple = some q := eb
      rw [h2] at e; cases e; simp [PyData.eqv]
    | _ => cases hb
  | .tup l, b, 0, p, q, ha, hb, ea, eb => by cases ha
  | .tup l, b, k + 1, p, q, ha, hb, ea, eb => by
    obtain ⟨ps, h1, _⟩ := py_plA' l k ha
    have e : (pyA l).map PyData.tuple = some p := ea
    rw [h1] at e; cases e
    cases b with
    | int j => cases eb; simp [PyData.eqv]
    | non => cases eb; simp [PyData.eqv]
    | tup m =>
      obtain ⟨qs, h2, _⟩ := py_plA' m k hb
      have e : (pyA m).map PyData.tuple = some q := eb
      rw [h2] at e; cases e
      have := eqvA_pl l m k ps qs ha hb h1 h2
      simp only [PyData.eqv, this, D.tup.injEq]
    | lst m =>
      obtain ⟨qs, h2, _⟩ := py_plA' m k hb
      have e : (pyA m).map PyData.list = some q := eb
      rw [h2] at e; cases e; simp [PyData.eqv]
    | _ => cases hb
  | .bl _, b, k, p, q, h, _, _, _ => by cases k <;> cases h
  | .str _, b, k, p, q, h, _, _, _ => by cases k <;> cases h
  | .scr _, b, k, p, q, h, _, _, _ => by cases k <;> cases h
  | .obj _ _, b, k, p, q, h, _, _, _ => by cases k <;> cases h
  | .exc _ _, b, k, p, q, h, _, _, _ => by cases k <;> cases h
  | .dct _ _, b, k, p, q, h, _, _, _ => by cases k <;> cases h
  | .dtt _ _, b, k, p, q, h, _, _, _ => by cases k <;> cases h
  | .adr _, b, k, p, q, h, _, _, _ => by cases k <;> cases h
theorem eqvA_pl : ∀ (a b : List D) (k : Nat) (p q : List PyData), plA k a = true → plA k b = true → pyA a = some p → pyA b = some q → (PyData.eqvAll p q = true ↔ a = b)
  | [], [], k, p, q, _, _, ea, eb => by cases ea; cases eb; simp [PyData.eqvAll]
  | [], d :: r, k, p, q, _, hb, ea, eb => by
    cases ea
    obtain ⟨ps, h1, _⟩ := py_plA' (d :: r) k hb
    rw [eb] at h1; cases h1
    cases q with
    | nil =>
      have e : ((py d).bind fun x => (pyA r).map fun xs => x :: xs) = some [] := eb
      cases h2 : py d with
      | none => rw [h2] at e; cases e
      | some x => rw [h2] at e; cases h3 : pyA r with
        | none => rw [h3] at e; cases e
        | some y => rw [h3] at e; cases e
    | cons => simp [PyData.eqvAll]
  | d :: r, [], k, p, q, ha, _, ea, eb => by
    cases eb
    cases p with
    | nil =>
      have e : ((py d).bind fun x => (pyA r).map fun xs => x :: xs) = some [] := ea
      cases h2 : py d with
      | none => rw [h2] at e; cases e
      | some x => rw [h2] at e; cases h3 : pyA r with
        | none => rw [h3] at e; cases e
        | some y => rw [h3] at e; cases e
    | cons => simp [PyData.eqvAll]
  | d :: r, d' :: r', k, p, q, ha, hb, ea, eb => by
    obtain ⟨h1, h2⟩ := Bool.and_eq_true_iff.mp (show (pl k d && plA k r) = true from ha)
    obtain ⟨h3, h4⟩ := Bool.and_eq_true_iff.mp (show (pl k d' && plA k r') = true from hb)
    obtain ⟨x, e1, _⟩ := py_pl d k h1
    obtain ⟨xs, e2, _⟩ := py_plA' r k h2
    obtain ⟨y, e3, _⟩ := py_pl d' k h3
    obtain ⟨ys, e4, _⟩ := py_plA' r' k h4
    have f1 : ((py d).bind fun x => (pyA r).map fun xs => x :: xs) = some p := ea
    have f2 : ((py d').bind fun x => (pyA r').map fun xs => x :: xs) = some q := eb
    rw [e1, e2] at f1
    rw [e3, e4] at f2
    cases f1; cases f2
    have k1 := eqv_pl d d' k x y h1 h3 e1 e3
    have k2 := eqvA_pl r r' k xs ys h2 h4 e2 e4
    simp only [PyData.eqvAll, Bool.and_eq_true, k1, k2, List.cons.injEq]
end
theorem eqG_pl {a b : D} (ha : pl 60 a = true) (hb : pl 60 b = true) : ∃ c, eqG a b = .ok (.bl c) ∧ (c = true ↔ a = b) := by
  obtain ⟨p, e1, e2, e3⟩ := py_pl a 60 ha
  obtain ⟨q, f1, f2, f3⟩ := py_pl b 60 hb
  refine ⟨PyData.eqv p q, ?_, eqv_pl a b 60 p q ha hb e1 f1⟩
  unfold eqG
  rw [e1, f1]
  show (if (SeqAt.shaped p && SeqAt.shaped q) = true then R.ok (D.bl (PyData.eqv p q)) else .no) = _
  rw [if_pos]
  unfold SeqAt.shaped
  rw [e2, f2, decide_eq_true (by omega), decide_eq_true (by omega)]
  rfl
theorem eqD_pl {a b : D} (ha : pl 60 a = true) (hb : pl 60 b = true) : ∃ c, eqD a b = .ok (.bl c) ∧ (c = true ↔ a = b) := by
  unfold eqD
  split
  · rename_i i j
    exact ⟨_, rfl, by simp⟩
  · exact eqG_pl ha hb
/-- == of told values of one kind -/
theorem eqD_enc {α : Type} [DecidableEq α] (enc : α → D) (inj : ∀ x y, enc x = enc y → x = y) (h : ∀ x, pl 60 (enc x) = true) (x y : α) : eqD (enc x) (enc y) = .ok (.bl (decide (x = y))) := by
  obtain ⟨c, h1, h2⟩ := eqD_pl (h x) (h y)
  rw [h1]
  congr 2
  have : c = true ↔ x = y := h2.trans ⟨inj x y, fun e => by rw [e]⟩
  cases c with
  | true => exact (decide_eq_true (this.mp rfl)).symm
  | false => exact (decide_eq_false fun e => Bool.false_ne_true (this.mpr e)).symm
theorem pl_le {k j : Nat} (hk : k ≤ j) : ∀ {d : D}, (pl k d = true → pl j d = true) := by
  suffices H : (∀ (d : D) (k j : Nat), k ≤ j → pl k d = true → pl j d = true) from fun {d} => H d k j hk
  intro d
  refine D.rec (motive_1 := fun d => ∀ (k j : Nat), k ≤ j → pl k d = true → pl j d = true) (motive_2 := fun l => ∀ (k j : Nat), k ≤ j → plA k l = true → plA j l = true) ?_ ?_ ?_ ?_ ?_ ?_ ?_ ?_ ?_ ?_ ?_ ?_ ?_ ?_ d
  · intro k j _ _; rfl
  · intro b k j _ h; cases k <;> cases h
  · intro i k j _ _; rfl
  · intro z k j _ h; cases k <;> cases h
  · intro l ih k j hk h
    match k, j, hk, h with
    | 0, _, _, h => cases h
    | k + 1, 0, hk, _ => omega
    | k + 1, j + 1, hk, h => exact ih k j (by omega) h
  · intro l ih k j hk h
    match k, j, hk, h with
    | 0, _, _, h => cases h
    | k + 1, 0, hk, _ => omega
    | k + 1, j + 1, hk, h => exact ih k j (by omega) h
  · intro l k j _ h; cases k <;> cases h
  · intro c l _ k j _ h; cases k <;> cases h
  · intro c l _ k j _ h; cases k <;> cases h
  · intro c l _ k j _ h; cases k <;> cases h
  · intro c l _ k j _ h; cases k <;> cases h
  · intro c k j _ h; cases k <;> cases h
  · intro k j _ _; rfl
  · intro d r ih1 ih2 k j hk h
    obtain ⟨h1, h2⟩ := Bool.and_eq_true_iff.mp (show (pl k d && plA k r) = true from h)
    exact Bool.and_eq_true_iff.mpr ⟨ih1 k j hk h1, ih2 k j hk h2⟩
theorem pl_map {α : Type} {enc : α → D} {k : Nat} (h : ∀ x, pl k (enc x) = true) (l : List α) : plA k (l.map enc) = true := plA_iff.mpr fun d hd => by
  obtain ⟨x, _, rfl⟩ := List.mem_map.mp hd
  exact h x
theorem map_inj {α β : Type} {f : α → β} (inj : ∀ x y, f x = f y → x = y) : ∀ {l m : List α}, l.map f = m.map f → l = m
  | [], [], _ => rfl
  | [], _ :: _, h => by cases h
  | _ :: _, [], h => by cases h
  | a :: l, b :: m, h => by
    injection h with h1 h2
    rw [inj a b h1, map_inj inj h2]
/-- lists of told values -/
theorem eqD_lst {α : Type} [DecidableEq α] (enc : α → D) (inj : ∀ x y, enc x = enc y → x = y) (h : ∀ x, pl 50 (enc x) = true) (x y : List α) : eqD (.lst (x.map enc)) (.lst (y.map enc)) = .ok (.bl (decide (x = y))) :=
  eqD_enc (fun l : List α => .lst (l.map enc)) (fun a b e => map_inj inj (D.lst.inj e)) (fun l => pl_map (k := 59) (fun x => pl_le (by decide) (h x)) l) x y
theorem eqD_tup {α : Type} [DecidableEq α] (enc : α → D) (inj : ∀ x y, enc x = enc y → x = y) (h : ∀ x, pl 50 (enc x) = true) (x y : List α) : eqD (.tup (x.map enc)) (.tup (y.map enc)) = .ok (.bl (decide (x = y))) :=
  eqD_enc (fun l : List α => .tup (l.map enc)) (fun a b e => map_inj inj (D.tup.inj e)) (fun l => pl_map (k := 59) (fun x => pl_le (by decide) (h x)) l) x y
theorem encP_inj (x y : Int × Int) (h : encP x = encP y) : x = y := by
  obtain ⟨a, b⟩ := x
  obtain ⟨c, d⟩ := y
  unfold encP at h
  simp at h
  rw [h.1, h.2]
@[simp] theorem eqD_pairs (x y : List (Int × Int)) : eqD (.lst (x.map encP)) (.lst (y.map encP)) = .ok (.bl (decide (x = y))) := eqD_lst encP encP_inj (fun _ => rfl) x y
@[simp] theorem neD_pairs (x y : List (Int × Int)) : neD (.lst (x.map encP)) (.lst (y.map encP)) = .ok (.bl (!decide (x = y))) := neD_of (eqD_pairs x y)
@[simp] theorem eqD_pairsT (x y : List (Int × Int)) : eqD (.tup (x.map encP)) (.tup (y.map encP)) = .ok (.bl (decide (x = y))) := eqD_tup encP encP_inj (fun _ => rfl) x y
@[simp] theorem neD_pairsT (x y : List (Int × Int)) : neD (.tup (x.map encP)) (.tup (y.map encP)) = .ok (.bl (!decide (x = y))) := neD_of (eqD_pairsT x y)
@[simp] theorem eqD_intsL (x y : List Int) : eqD (.lst (x.map D.int)) (.lst (y.map D.int)) = .ok (.bl (decide (x = y))) := eqD_ints x y
@[simp] theorem neD_intsL (x y : List Int) : neD (.lst (x.map D.int)) (.lst (y.map D.int)) = .ok (.bl (!decide (x = y))) := neD_of (eqD_ints x y)
/-! ### more rewriting -/
def SR.un (r : R D) (t : FT) (e : En) : SR := .of e r fun d => match t d e with
  | .ok e => .nx e
  | _ => .no
def SR.unt (r : R En) : SR := match r with
  | .ok e => .nx e
  | _ => .no
@[simp] theorem un_ok (d t e) : SR.un (.ok d) t e = SR.unt (t d e) := id rfl
@[simp] theorem un_er (c p t e) : SR.un (.er c p) t e = .er e c p := id rfl
@[simp] theorem unt_ok (e) : SR.unt (.ok e) = .nx e := id rfl
@[simp] theorem s_gUnp (t f e) : gUnp t f e = SR.un (f e) t e := id rfl
def SR.mt0T (s : Option Sl) (k : List D → Option (List D)) (i : Nat) (e : En) : SR := match s with
  | some (.mu l) => (match k l with
    | some m => .nx (e.set i (.mu m))
    | none => .no)
  | _ => .no
def SR.mt0 (m : Option (List D)) (i : Nat) (e : En) : SR := match m with
  | some m => .nx (e.set i (.mu m))
  | none => .no
@[simp] theorem mt0T_mu (l k i e) : SR.mt0T (some (.mu l)) k i e = SR.mt0 (k l) i e := id rfl
@[simp] theorem mt0_some (m i e) : SR.mt0 (some m) i e = .nx (e.set i (.mu m)) := id rfl
@[simp] theorem s_gMut0 (i k) (e : En) : gMut0 i k e = SR.mt0T e[i]? k i e := id rfl
@[simp] theorem s_kRev (l) : kRev l = some l.reverse := id rfl
@[simp] theorem s_kClear (l) : kClear l = some [] := id rfl
def SR.six (s : Option Sl) (f fi : R D) (i : Nat) (e : En) : SR := match s with
  | some (.mu l) => .of e f fun d => .of e fi fun
    | .int n => (match ixN l.length n with
      | some k => .nx (e.set i (.mu (l.set k d)))
      | none => .no)
    | _ => .no
  | _ => .no
def SR.sixk (l : List D) (d : D) (k : Option Nat) (i : Nat) (e : En) : SR := match k with
  | some k => .nx (e.set i (.mu (l.set k d)))
  | none => .no
@[simp] theorem six_mu (l d n i e) : SR.six (some (.mu l)) (.ok d) (.ok (.int n)) i e = SR.sixk l d (ixN l.length n) i e := id rfl
@[simp] theorem sixk_some (l d k i e) : SR.sixk l d (some k) i e = .nx (e.set i (.mu (l.set k d))) := id rfl
@[simp] theorem s_gSetIx (i fi f) (e : En) : gSetIx i fi f e = SR.six e[i]? (f e) (fi e) i e := by
  unfold gSetIx SR.six
  cases e[i]? with
  | none => rfl
  | some s => cases s <;> rfl
@[simp] theorem s_isiI (T : String) (n : Int) : isiD T (.int n) = (match kitB "int" T with | some b => .ok (.bl b) | none => .no) := id rfl
@[simp] theorem at_many (m d) : atD 0 "many" (.obj 0 [m, d]) = .ok m := id rfl
@[simp] theorem at_ties (m d) : atD 0 "ties" (.obj 0 [m, d]) = .ok d := id rfl
def isiS (T : String) : D → R D := fun | .scr _ => .no | d => isiD T d
@[simp] theorem isi_int_int (n) : isiS "int" (.int n) = .ok (.bl true) := id rfl
@[simp] theorem isi_int_bool (n) : isiS "bool" (.int n) = .ok (.bl false) := id rfl
@[simp] theorem isi_int_list (n) : isiS "list" (.int n) = .ok (.bl false) := id rfl
@[simp] theorem isi_int_tuple (n) : isiS "tuple" (.int n) = .ok (.bl false) := id rfl
@[simp] theorem isi_bl_bool (n) : isiS "bool" (.bl n) = .ok (.bl true) := id rfl
@[simp] theorem isi_bl_int (n) : isiS "int" (.bl n) = .ok (.bl true) := id rfl
@[simp] theorem isi_lst_list (n) : isiS "list" (.lst n) = .ok (.bl true) := id rfl
@[simp] theorem isi_lst_tuple (n) : isiS "tuple" (.lst n) = .ok (.bl false) := id rfl
@[simp] theorem isi_lst_int (n) : isiS "int" (.lst n) = .ok (.bl false) := id rfl
@[simp] theorem isi_tup_list (n) : isiS "list" (.tup n) = .ok (.bl false) := id rfl
@[simp] theorem isi_tup_tuple (n) : isiS "tuple" (.tup n) = .ok (.bl true) := id rfl
@[simp] theorem isi_encP (t) : isiS "tuple" (encP t) = .ok (.bl true) := id rfl
@[simp] theorem isi_non_list : isiS "list" .non = .ok (.bl false) := id rfl
@[simp] theorem isi_non_tuple : isiS "tuple" .non = .ok (.bl false) := id rfl
@[simp] theorem isi_str_str (n) : isiS "str" (.str n) = .ok (.bl true) := id rfl
@[simp] theorem at_manyO (m ts) : atD 0 "many" (webO m ts) = .ok (.int m) := id rfl
@[simp] theorem at_tiesO (m ts) : atD 0 "ties" (webO m ts) = .ok (.tup (ts.map encP)) := id rfl
@[simp] theorem encP_0 (t : Int × Int) : ixD (encP t) (.int 0) = .ok (.int t.1) := id rfl
@[simp] theorem encP_1 (t : Int × Int) : ixD (encP t) (.int 1) = .ok (.int t.2) := id rfl
@[simp] theorem tT2_encP (u t e) : tT 2 u (encP t) e = u [.int t.1, .int t.2] e := id rfl
end BW
/-! BCore21: try, the error kept as a value. -/
namespace BW
open PySem PySem.Spec PyProof.Rows L2
open Evl (Ex Ex.refl Ex.trans Ex.new ex_rd ex_l ex_t)
/-- an error as it stands in the heap -/
def excV (cls : Value) (od : Option Addr) (a : Addr) : HO := .ext fun h => ∃ oe, h.get? a = some oe ∧ Zc cls od oe ∧ ∃ vs, oe.data = .fields vs
/-- the context of a suite: an error is handled, nothing may be let out -/
abbrev Cx.inSuite (X : Cx) (a : Addr) (pn : List (Addr × Obj)) : Cx := { X with A := X.A.mark (some (.ref a)), calm := false, pn := pn, xe := fun _ _ => False }
section
variable {X : Cx} {pins : List (Addr × Obj)} {σ : L2.St} {H : Hp} {s t s' : Shared} {B : Heap}
/-- the error in the heap, told from now on -/
theorem inv_told (inv : Inv X pins σ H t) (nb : ∀ b o, t.heap.get? b = some o → b ∉ frs X.stack → B.get? b = some o) (st : B.StaysIn s'.heap) (up : t.heap.UpToSlots s'.heap) (hos : s'.os = t.os) (hag : AllBare s'.gens)
    {a : Addr} {oe : Obj} {cls : Value} {od : Option Addr} (hB : B.get? a = none) (hfr : a ∉ frs X.stack) (ha : s'.heap.get? a = some oe) (hz : Zc cls od oe) (hv : ∃ vs, oe.data = .fields vs) : Inv X pins σ (upd H a (excV cls od a)) s' := by
  have new : t.heap.get? a = none := by
    cases q : t.heap.get? a with
    | none => rfl
    | some o => rw [nb a o q hfr] at hB; cases hB
  have base := inv.landed nb st up hos hag
  have hn : H a = none := by
    cases q : H a with
    | none => rfl
    | some o =>
      exfalso
      obtain ⟨u, hu⟩ := objOk_get (inv.hok a o q)
      rw [new] at hu
      cases hu
  have ne : ∀ {b o}, H b = some o → b ≠ a := fun {b o} e z => by rw [z, hn] at e; cases e
  have frame : ∀ b ∈ frs X.stack, ∀ o, t.heap.get? b = some o → ∃ sl, s'.heap.get? b = some { o with slots := sl } := fun b hb o e => by
    obtain ⟨_, o', e', hd⟩ := inv.stack.mem hb
    rw [e] at e'
    cases e'
    exact up b o e hd
  have hok : HOk X.prog X.w (upd H a (excV cls od a)) s'.heap := fun b u e => by
    by_cases hb : b = a
    · subst hb
      rw [upd_same] at e
      cases e
      refine ⟨⟨oe, ha, hz, hv⟩, ⟨oe, ha⟩, fun h1 h2 ⟨o, e1, e2, e3⟩ k => ⟨o, k o e1, e2, e3⟩⟩
    · rw [upd_ne hb] at e
      refine (base.hok b u e).stay (fun _ _ _ q => q) (fun c q => by rw [upd_ne (ne q)]; exact q) fun c xs q => by rw [upd_ne (ne q)]; exact q
  have J := inv.call (ch := []) (h' := s'.heap) (g' := s'.gens) (t' := s'.toks) (d' := s'.drawn) (H' := upd H a (excV cls od a))
    ⟨fun b o e _ hb _ => st b o (nb b o e hb), fun b o e _ hb _ => frame b hb o e, fun b o e n _ => by
        rw [upd_ne fun z => by rw [z, new] at e; cases e]
        exact n, fun b o e _ => by
        by_cases hb : b ∈ frs X.stack
        · obtain ⟨sl, q⟩ := frame b hb o e
          exact ⟨_, q⟩
        · exact ⟨o, st b o (nb b o e hb)⟩, fun b xs e => by rw [upd_ne (ne e)]; exact e, fun b o u e => by rw [upd_ne (ne e)]; exact e, fun b ps e => ⟨#[], by rw [upd_ne (ne e), e]; simp⟩⟩
    hok hag (fun _ z => nomatch z)
  obtain ⟨b1, b2, b3, b4, b5⟩ := s'
  have : b5 = t.os := hos
  subst this
  exact J
theorem inv_suite (inv : Inv X pins σ H s) (a : Addr) : Inv (Cx.inSuite X a (X.pn ++ pins)) [] σ H s :=
  ⟨⟨inv.ok.mod, inv.ok.kind, inv.ok.glob, inv.ok.blt, inv.ok.above, inv.ok.inj, inv.ok.has, inv.ok.cab, (fun z => by cases z), inv.ok.frames, inv.ok.stk, inv.ok.exf, inv.ok.bs, inv.ok.bsz, inv.ok.noex, inv.ok.exfs, inv.ok.funs, inv.ok.frf⟩,
    inv.os, inv.bare, inv.base, inv.loc, inv.cell, inv.free, inv.freeC, (fun p hp => inv.pin p (by rwa [List.append_nil] at hp)), inv.hok, inv.len⟩
theorem inv_unsuite {a : Addr} {pn : List (Addr × Obj)} (ok : X.Ok) (inv : Inv (Cx.inSuite X a (X.pn ++ pins)) pn σ H s) : Inv X pins σ H s :=
  ⟨ok, inv.os, inv.bare, inv.base, inv.loc, inv.cell, inv.free, inv.freeC, (fun p hp => inv.pin p (List.mem_append_left _ hp)), inv.hok, inv.len⟩
end
/-- what a clause that keeps the error wishes: slot i is its name's, c the class that it names -/
def wKeep (K : PySem.W.Frag) (c : Value) (i : Nat) (ts : TS) (Wout : WX) (D : Ends) : WX := fun cls d σ H =>
  ∃ b, PySem.W.exmOne K cls c = some b ∧ (b = true → ∀ a, H a = none → ts { nx := fun σ' H' => D.nx (σ'.set i none) H', rt := D.rt, bk := fun σ' H' => D.bk (σ'.set i none) H', ct := fun σ' H' => D.ct (σ'.set i none) H' } (σ.set i (some (.ref a))) (upd H a (excV cls d a))) ∧ (b = false → Wout cls d σ H)
section
variable {X : Cx} {x n : Str} {c : Value} {i : Nat} {body suite : List Stmt} {b₀ : Stmt} {np pos pos' : Pos} {tb : WX → TS} {ts : TS} {Wout : WX}
theorem ps_tryK (stk : X.stack = X.env :: X.outer) (frm : X.env.frame = some X.env.locals) (nd : X.N.Nodup) (slot : X.N[i]? = some n) (loc : X.env.kindOf n = some .local) (nm : Names X x c) (tk : Takes X Wout)
    (hb : ∀ (W : WX) (pn : List (Addr × Obj)) (xe : Value → Shared → Prop), Takes (X.tr pn xe) W → PassesOwn (model X.prog X.w) X.A X.env xe → PSs (X.tr pn xe) body (tb W))
    (hsu : ∀ (a : Addr) (pn : List (Addr × Obj)), PSs (Cx.inSuite X a pn) (b₀ :: suite) ts) :
    PS X (.Try body [.ExceptHandler (some (.Name x np)) (some n) (b₀ :: suite) pos'] [] [] pos) (fun D σ H => tb (wKeep X.K c i ts Wout D) D σ H) := by
  refine ⟨fun pins s σ H D inv h => ?_⟩
  have ok := inv.ok
  have frames : X.A.frames = some (X.env :: X.outer) := by rw [ok.frames, stk]
  let hds : List ExceptHandler := [.ExceptHandler (some (.Name x np)) (some n) (b₀ :: suite) pos']
  let xe2 : Value → Shared → Prop := fun e s₁ => wpAny (model X.prog X.w) X.A (noteFrame e X.env) (fun _ s₂ => wpAny (model X.prog X.w) X.A (setFlight e none) (fun _ s₃ => wpAny (model X.prog X.w) X.A (handleBy e X.env hds) (SP X pins D) X.xe s₃) X.xe s₂) X.xe s₁
  have takes : Takes (X.tr (X.pn ++ pins) xe2) (wKeep X.K c i ts Wout D) := by
    intro u s' xx
    obtain ⟨a, B, sI, pins', σ', H', cls, d, rfl, J', nb, up, sky, na, os, ag, b, hb1, hyes, hno⟩ := xx
    have J : Inv X pins σ' H' sI := J'.ofTry ok
    rw [show (X.tr (X.pn ++ pins) xe2).stack = X.env :: X.outer from stk] at sky
    show wpAny (model X.prog X.w) X.A (noteFrame (.ref a) X.env) _ _ _
    refine Sky.land Zc.steady frames frm sky fun h3 fly up3 => ?_
    have upA := up.trans up3
    obtain ⟨k1, k2, k3, oe, vs, T, oT, tt, he, hz, hd, h1, hrest⟩ := id fly
    have J3 : Inv X pins σ' H' { s' with heap := h3 } := J.landed nb k1 upA os ag
    have nfr : ∀ {h : Heap} {o : Obj} {vs : Array Value}, h.FunFrames B (X.env :: X.outer) → h.get? a = some o → o.data = .fields vs → a ∉ frs (X.env :: X.outer) := fun {h o vs} ff e dd hm => by
      obtain ⟨_, o', e', hnf⟩ := ff.mem hm
      rw [e] at e'
      cases e'
      exact hnf _ dd
    refine wpAny_handleBy_cons (codeAny_handlers_test ?_) (by intro q; cases q)
    have ty : PySem.W.Looks (model X.prog X.w) h3 (typeOf (.ref a)) cls := fun A Q E s k q => wpAny_typeOf_ref (k _ _ he) (by rw [hz.1]; exact q)
    have match_ := PySem.W.exm_one (M := model X.prog X.w) (J3.kIn) ty hb1
    have S3 := inv_suite J3 a
    have test : ∀ {Q : Value → Shared → Prop} {E : Value → Shared → Prop}, Q c { s' with heap := h3 } → wpAny (model X.prog X.w) (X.A.mark (some (.ref a))) (eval (.Name x np) X.env) Q E { s' with heap := h3 } := fun {Q E} q => by
      obtain ⟨hg, hdbg, hm | ⟨hm, hv, hnn⟩⟩ := nm
      · exact ld_glob (X := Cx.inSuite X a (X.pn ++ pins)) S3 hg hm q hdbg
      · exact ld_blt (X := Cx.inSuite X a (X.pn ++ pins)) S3 hg hm hv q hnn hdbg
    refine test (match_.here ?_)
    cases b with
    | false =>
      show wpAny _ X.A (handleBy (.ref a) X.env []) _ _ _
      refine wpAny_handleBy_nil ?_
      unfold PySem.passOn
      refine wpAny_bind (wpAny_field he hd h1 ?_)
      rw [if_neg (show ¬ ((Value.ref T == Value.none) = true) from by simp)]
      have last : wpAny (model X.prog X.w) X.A (setFlight (.ref a) X.env.frame) (fun _ s4 => wpAny (model X.prog X.w) X.A (throw (.ref a) : Sem Flow) (SP X pins D) X.xe s4) X.xe { s' with heap := h3 } := by
        rw [frm]
        refine HandSPX.setFlight_upZ fly fun h4 hh4 up4 => wpAny_throw (tk _ _ ?_)
        exact ⟨a, B, sI, pins, σ', H', cls, d, rfl, J, (show ∀ b o, sI.heap.get? b = some o → b ∉ frs X.stack → B.get? b = some o from nb), upA.trans up4, .inr (.inr (by rw [stk]; exact hh4)), na, os, ag, hno rfl⟩
      first
        | exact wpAny_bind (wpAny_pure (wpAny_bind last))
        | exact wpAny_bind last
    | true =>
      refine codeAny_handlers_suite_as ?_
      refine HandSPX.lands_againZ fly fun h4 fly4 up4 => ?_
      obtain ⟨m1, m2, m3, oe4, vs4, T4, oT4, tt4, he4, hz4, hd4, h14, hrest4⟩ := id fly4
      have J4 : Inv X pins σ' (upd H' a (excV cls d a)) { s' with heap := h4 } := inv_told (s' := { s' with heap := h4 }) J nb m1 (upA.trans up4) os ag m2 (by rw [stk]; exact nfr m3 he4 hd4) he4 hz4 ⟨_, hd4⟩
      have S4 := inv_suite J4 a
      refine store_ok (X := Cx.inSuite X a (X.pn ++ pins)) (v := .ref a) S4 nd slot (.inl loc) rfl (fun s5 S5 => ?_) (.inr loc)
      refine wpAny_mono ((hsu a (X.pn ++ pins)).run [] s5 _ _ _ S5 (hyes rfl a na)) (fun f s6 hsp => ?_) (fun _ _ z => False.elim z)
      have fin : ∀ {σ6 : L2.St} {H6 : Hp} {Q : Shared → Prop}, Inv (Cx.inSuite X a (X.pn ++ pins)) [] σ6 H6 s6 → (∀ s7, Inv X pins (σ6.set i none) H6 s7 → Q s7) →
          wpAny (model X.prog X.w) X.A (do bindName X.env n .none; unbindBehindTheSuite X.env n pos') (fun _ s7 => Q s7) X.xe s6 := fun {σ6 H6 Q} S6 hq => gone_ok (inv_unsuite ok S6) nd slot loc hq
      match f, hsp with
      | .next, ⟨σ6, H6, S6, q6⟩ => exact fin S6 fun s7 J7 => ⟨_, _, J7, q6⟩
      | .brk, ⟨σ6, H6, S6, q6⟩ => exact fin S6 fun s7 J7 => ⟨_, _, J7, q6⟩
      | .cont, ⟨σ6, H6, S6, q6⟩ => exact fin S6 fun s7 J7 => ⟨_, _, J7, q6⟩
      | .ret u, ⟨v6, σ6, H6, S6, r6, q6⟩ => exact fin S6 fun s7 J7 => ⟨_, _, _, J7, r6, q6⟩
  refine wpAny_Try_except ?_
  refine wpAny_mono ((hb _ (X.pn ++ pins) xe2 takes PassesOwn.looking).run [] s σ H D (inv.toTry _) h) (fun f s1 hsp => ?_) (fun e s1 he => he)
  match f, hsp with
  | .next, ⟨σ', H', J', q⟩ => exact wpAny_execs_nil ⟨σ', H', J'.ofTry ok, q⟩
  | .brk, ⟨σ', H', J', q⟩ => exact ⟨σ', H', J'.ofTry ok, q⟩
  | .cont, ⟨σ', H', J', q⟩ => exact ⟨σ', H', J'.ofTry ok, q⟩
  | .ret u, ⟨v, σ', H', J', r, q⟩ => exact ⟨v, σ', H', J'.ofTry ok, r, q⟩
end
end BW
/-! BCore22: try as a function of the environment. -/
namespace BW
open PySem PySem.Spec PyProof.Rows L2
open Evl (Ex Ex.refl Ex.trans Ex.new ex_rd ex_l ex_t)
/-- a suite's end: the name is gone -/
def suiteEnd (i : Nat) : SR → SR
  | .nx e => .nx (e.set i .no)
  | .bk e => .bk (e.set i .no)
  | .ct e => .ct (e.set i .no)
  | .rt d => .rt d
  | _ => .no
def SR.tryK (r : SR) (i : Nat) (tb : List (Nat × Bool)) (suite : G) : SR := match r with
  | .er e c p => (match tb.lookup c with
    | some true => suiteEnd i (suite (e.set i (.im (.exc c p))))
    | some false => .er e c p
    | none => .no)
  | r => r
def gTry (i : Nat) (tb : List (Nat × Bool)) (body suite : G) : G := fun env => SR.tryK (body env) i tb suite
/-- what such a table leans on -/
def ExmT (K : PySem.W.Frag) (c : Value) (tb : List (Nat × Bool)) : Prop := ∀ k b, tb.lookup k = some b → PySem.W.exmOne K (.ref (CL K k)) c = some b
theorem exmT_nil {K : PySem.W.Frag} {c : Value} : ExmT K c [] := fun k b h => by cases h
theorem exmT_cons {K : PySem.W.Frag} {c : Value} {tb : List (Nat × Bool)} {k : Nat} {b : Bool} (h1 : PySem.W.exmOne K (.ref (CL K k)) c = some b) (r : ExmT K c tb) : ExmT K c ((k, b) :: tb) := fun k' b' h => by
  rw [List.lookup_cons] at h
  cases z : k' == k with
  | true =>
    rw [z] at h
    have e := eq_of_beq z
    subst e
    cases h
    exact h1
  | false => rw [z] at h; exact r k' b' h
section
variable {X : Cx} {W : WX} {A H0 : Hp} {fr : Bool}
theorem vs_try (i : Nat) {x n : Str} {c : Value} {tb : List (Nat × Bool)} {body suite : List Stmt} {b₀ : Stmt} {np pos pos' : Pos} {gb gs : G} (T : ExmT X.K c tb) (tk : Takes X W) (nm : Names X x c) (nd : X.N.Nodup)
    (hb : ∀ (W' : WX) (pn : List (Addr × Obj)) (xe : Value → Shared → Prop), Takes (X.tr pn xe) W' → PassesOwn (model X.prog X.w) X.A X.env xe → VSs (X.tr pn xe) W' A H0 fr body gb)
    (hsu : ∀ (a : Addr) (pn : List (Addr × Obj)), VSs (Cx.inSuite X a pn) WF A H0 fr (b₀ :: suite) gs)
    (stk : X.stack = X.env :: X.outer := by rfl) (frm : X.env.frame = some X.env.locals := by rfl) (slot : X.N[i]? = some n := by rfl) (loc : X.env.kindOf n = some .local := by rfl) :
    VS X W A H0 fr (.Try body [.ExceptHandler (some (.Name x np)) (some n) (b₀ :: suite) pos'] [] [] pos) (gTry i tb gb gs) :=
  ps_imp (ps_tryK (tb := fun W' => rdS X.K W' A H0 fr gb) (ts := rdS X.K WF A H0 fr gs) stk frm nd slot loc nm tk hb hsu) fun Z σ H ⟨env, I, rl, q⟩ => ⟨env, I, rl, by
    have q0 : PostS X.K W A H0 fr I Z (SR.tryK (gb env) i tb gs) := q
    cases hg : gb env with
    | nx e => rw [hg] at q0; exact q0
    | bk e => rw [hg] at q0; exact q0
    | ct e => rw [hg] at q0; exact q0
    | rt d => rw [hg] at q0; exact q0
    | no => rw [hg] at q0; exact q0.elim
    | er e k p =>
      rw [hg] at q0
      have q1 : PostS X.K W A H0 fr I Z (match tb.lookup k with
        | some true => suiteEnd i (gs (e.set i (.im (.exc k p))))
        | some false => .er e k p
        | none => .no) := q0
      intro σ1 I1 H1 cls od r1 e1 err
      cases ht : tb.lookup k with
      | none => rw [ht] at q1; exact q1.elim
      | some b =>
        rw [ht] at q1
        refine ⟨b, by rw [err.1]; exact T k b ht, fun hb1 => ?_, fun hb1 => ?_⟩
        · subst hb1
          intro a ha
          have hcl : cls = .ref (CL X.K k) := err.1
          subst hcl
          have g := Grow.push (o := excV (.ref (CL X.K k)) od a) r1.g.ih ha
          have hrd : Rd X.K (upd I1 a (excV (.ref (CL X.K k)) od a)) (.ref a) (.exc k p) := by
            have e2 := err.2
            match p, e2 with
            | [], e2 =>
              have hod : od = none := e2
              subst hod
              exact .exc0 upd_same
            | [d], e2 =>
              obtain ⟨dx, v, hod, hd, hx⟩ := e2
              subst hod
              exact .exc1 upd_same (g.i _ _ hx) (Rd.of_sc hd)
          refine ⟨_, _, (r1.grow g).set_im (i := i) (d := .exc k p) hrd, ?_⟩
          have ei : Ex I (upd I1 a (excV (.ref (CL X.K k)) od a)) := e1.trans g.i
          have q2 : PostS X.K W A H0 fr I Z (suiteEnd i (gs (e.set i (.im (.exc k p))))) := q1
          cases hs : gs (e.set i (.im (.exc k p))) with
          | nx e2 => rw [hs] at q2; exact fun σ3 I3 H3 r3 e3 => q2 _ I3 H3 (r3.wipe [i]) (ei.trans e3)
          | bk e2 => rw [hs] at q2; exact fun σ3 I3 H3 r3 e3 => q2 _ I3 H3 (r3.wipe [i]) (ei.trans e3)
          | ct e2 => rw [hs] at q2; exact fun σ3 I3 H3 r3 e3 => q2 _ I3 H3 (r3.wipe [i]) (ei.trans e3)
          | rt d => rw [hs] at q2; exact q2
          | er e2 k2 p2 => rw [hs] at q2; exact q2.elim
          | no => rw [hs] at q2; exact q2.elim
        · subst hb1
          exact q1 σ1 I1 H1 cls od r1 e1 err⟩
end
/-! ### running it -/
@[simp] theorem s_gTry (i tb b s e) : gTry i tb b s e = SR.tryK (b e) i tb s := id rfl
@[simp] theorem tryK_nx (e i tb s) : SR.tryK (.nx e) i tb s = .nx e := id rfl
@[simp] theorem tryK_rt (e i tb s) : SR.tryK (.rt e) i tb s = .rt e := id rfl
theorem tryK_er {e : En} {c i : Nat} {p : List D} {tb : List (Nat × Bool)} {s : G} (h : tb.lookup c = some true) : SR.tryK (.er e c p) i tb s = suiteEnd i (s (e.set i (.im (.exc c p)))) := by
  unfold SR.tryK
  show (match tb.lookup c with | some true => _ | some false => _ | none => _) = _
  rw [h]
@[simp] theorem suiteEnd_nx (i e) : suiteEnd i (.nx e) = .nx (e.set i .no) := id rfl
@[simp] theorem suiteEnd_rt (i e) : suiteEnd i (.rt e) = .rt e := id rfl
end BW
/-! BCore23: count; calls within a suite. -/
namespace BW
open PySem PySem.Spec PyProof.Rows L2
open Evl (Ex Ex.refl Ex.trans Ex.new ex_rd ex_l ex_t)
/-! ### count -/
theorem countU {y : V} {uy : Value} (ry : RelV y uy) (fy : flatV y = true) : ∀ {ys : List V} {us : List Value}, Vals ys us → ys.all flatV = true → us.countP (eqU y) = ys.countP fun z => eqV z y
  | _, _, .nil, _ => rfl
  | v :: vs, _ :: _, .cons r q, f => by
    obtain ⟨f1, f2⟩ := Bool.and_eq_true_iff.mp (show (flatV v && vs.all flatV) = true from f)
    rw [List.countP_cons, List.countP_cons, countU ry fy q f2, eqU_of r f1]
def rCountL (K : PySem.W.Frag) : V → List V → Hp → VK → Prop := fun x xs H Q => ∃ (p : Addr) (ys : List V) (y : V), x = .ref p ∧ xs = [y] ∧ SqL K H p ys ∧ flatV y = true ∧ ys.all flatV = true ∧ Q (.int (ys.countP fun z => eqV z y : Nat)) H
def rCountT (K : PySem.W.Frag) : V → List V → Hp → VK → Prop := fun x xs H Q => ∃ (p : Addr) (ys : List V) (y : V), x = .ref p ∧ xs = [y] ∧ SqT K H p ys ∧ flatV y = true ∧ ys.all flatV = true ∧ Q (.int (ys.countP fun z => eqV z y : Nat)) H
theorem mt_cntL {X : Cx} : MtR X "list.count" (rCountL X.K) := by
  intro pins s σ H x xs v us Q I rx rxs h
  obtain ⟨p, ys, y, rfl, rfl, hs, fy, fys, q⟩ := h
  cases rx
  obtain ⟨u, rfl, ry⟩ := rxs.one
  obtain ⟨its, rv, ⟨⟨cls, dd, data, sl⟩, n, ho, hc, hdn, hd⟩, hlen⟩ := I.list hs
  have hc' : cls = .type "list" := hc
  have hd' : data = .seq its.toArray n := hd
  subst hc' hd'
  refine call_meets PySem.F.slot_list_count ⟨_, ho, rfl⟩ PySem.F.entry_list_count (PySem.F.args_list_count_2 _ _) (SeqAt.list_countAt p its.toArray n dd sl u (eqU y)) ⟨ho, fun w hw => mem_eqAt ry fy rv fys w (by simpa using hw), ?_⟩
  refine ⟨.int (ys.countP fun z => eqV z y : Nat), H, I.tok _, ⟨s.toks, ?_⟩, q⟩
  rw [show its.toArray.toList = its from rfl, countU ry fy rv fys]
theorem mt_cntT {X : Cx} : MtR X "tuple.count" (rCountT X.K) := by
  intro pins s σ H x xs v us Q I rx rxs h
  obtain ⟨p, ys, y, rfl, rfl, hs, fy, fys, q⟩ := h
  cases rx
  obtain ⟨u, rfl, ry⟩ := rxs.one
  obtain ⟨its, rv, tp, hlen⟩ := I.tuple hs
  obtain ⟨⟨cls, dd, data, sl⟩, ho, hc, n, hd⟩ := id tp
  have hc' : cls = .type "tuple" := hc
  have hd' : data = .seq its.toArray n := hd
  subst hc' hd'
  refine call_meets PySem.F.slot_tuple_count ⟨_, ho, rfl⟩ PySem.F.entry_tuple_count (PySem.F.args_tuple_count_2 _ _) (SeqAt.tuple_countAt p its.toArray n dd sl u (eqU y)) ⟨ho, fun w hw => mem_eqAt ry fy rv fys w (by simpa using hw), ?_⟩
  refine ⟨.int (ys.countP fun z => eqV z y : Nat), H, I.tok _, ⟨s.toks, ?_⟩, q⟩
  rw [show its.toArray.toList = its from rfl, countU ry fy rv fys]
/-! ### max, min of a tuple -/
def rMaxT (K : PySem.W.Frag) : List V → Hp → VK → Prop := fun vs H Q => ∃ (a : Addr) (n : Int) (r : List Int), vs = [V.ref a] ∧ SqT K H a ((n :: r).map V.int) ∧ Q (.int (r.foldl max n)) H
def rMinT (K : PySem.W.Frag) : List V → Hp → VK → Prop := fun vs H Q => ∃ (a : Addr) (n : Int) (r : List Int), vs = [V.ref a] ∧ SqT K H a ((n :: r).map V.int) ∧ Q (.int (r.foldl min n)) H
theorem alike_ints (l : List Int) : PySem.W.AlikeAll (l.map PyData.int) := ⟨fun x hx y hy => by
  obtain ⟨i, _, rfl⟩ := List.mem_map.mp hx
  obtain ⟨j, _, rfl⟩ := List.mem_map.mp hy
  rfl, fun x hx => by
  obtain ⟨i, _, rfl⟩ := List.mem_map.mp hx
  intro z
  cases z⟩
theorem cr_maxT {X : Cx} (hc : X.calm = true) (hu : X.A.units + 64 < cLine) : CallR X (.builtin "max") (rMaxT X.K) := by
  intro pins s σ H vs us Q I rr h
  obtain ⟨a, n, r, rfl, hs, q⟩ := h
  obtain ⟨its, rv, tp, _⟩ := I.tuple hs
  rw [Vals.ref1 rr]
  have reads : ReadsAll s.heap its.toArray.toList (PyData.int n :: r.map PyData.int) [] := rv.ints.reads s.heap
  have al : PySem.W.AlikeAll (PyData.int n :: r.map PyData.int) := alike_ints (n :: r)
  refine PySem.W.max_tuple_data (I.ok.hd hc) tp reads al (by rw [show PyData.depthAll (PyData.int n :: r.map PyData.int) = 0 from depthAll_ints (n :: r)]; omega) fun i v h' tk bs _ rd hk => ?_
  rw [PySem.W.maxD_ints] at rd
  obtain ⟨t, ht, _⟩ := reads_int_inv rd
  exact ⟨.int (r.foldl max n), H, I.kept (t' := tk) hk, ⟨t, ht⟩, q⟩
theorem cr_minT {X : Cx} (hc : X.calm = true) (hu : X.A.units + 64 < cLine) : CallR X (.builtin "min") (rMinT X.K) := by
  intro pins s σ H vs us Q I rr h
  obtain ⟨a, n, r, rfl, hs, q⟩ := h
  obtain ⟨its, rv, tp, _⟩ := I.tuple hs
  rw [Vals.ref1 rr]
  have reads : ReadsAll s.heap its.toArray.toList (PyData.int n :: r.map PyData.int) [] := rv.ints.reads s.heap
  have al : PySem.W.AlikeAll (PyData.int n :: r.map PyData.int) := alike_ints (n :: r)
  refine PySem.W.min_tuple_data (I.ok.hd hc) tp reads al (by rw [show PyData.depthAll (PyData.int n :: r.map PyData.int) = 0 from depthAll_ints (n :: r)]; omega) fun i v h' tk bs _ rd hk => ?_
  rw [PySem.W.minD_ints] at rd
  obtain ⟨t, ht, _⟩ := reads_int_inv rd
  exact ⟨.int (r.foldl min n), H, I.kept (t' := tk) hk, ⟨t, ht⟩, q⟩
def maxTD : List D → R D
  | [.tup l] => match intsD l with
    | some (n :: ns) => .ok (.int (ns.foldl max n))
    | _ => .no
  | _ => .no
def minTD : List D → R D
  | [.tup l] => match intsD l with
    | some (n :: ns) => .ok (.int (ns.foldl min n))
    | _ => .no
  | _ => .no
theorem nea_maxT : NoErA maxTD := fun ds c p => by
  unfold maxTD
  repeat' split
  all_goals exact fun z => nomatch z
theorem nea_minT : NoErA minTD := fun ds c p => by
  unfold minTD
  repeat' split
  all_goals exact fun z => nomatch z
section
variable {K : PySem.W.Frag}
theorem gc_maxT : GC K (rMaxT K) [false] maxTD := gc1 fun v x d H Q hv e => by
  cases x <;> try (cases e; done)
  rename_i l
  obtain ⟨a, vs, rfl, h1, h2⟩ := hv.tup_inv
  have e' : (match intsD l with | some (n :: ns) => R.ok (D.int (ns.foldl max n)) | _ => .no) = .ok d := e
  cases h : intsD l with
  | none => rw [h] at e'; cases e'
  | some ns =>
    rw [h] at e'
    cases ns with
    | nil => cases e'
    | cons n ns =>
      cases e'
      have k := (ints_rd h2 h).1
      exact ⟨_, rfl, fun q => ⟨a, n, ns, rfl, (k ▸ h1.sq), q⟩⟩
theorem gc_minT : GC K (rMinT K) [false] minTD := gc1 fun v x d H Q hv e => by
  cases x <;> try (cases e; done)
  rename_i l
  obtain ⟨a, vs, rfl, h1, h2⟩ := hv.tup_inv
  have e' : (match intsD l with | some (n :: ns) => R.ok (D.int (ns.foldl min n)) | _ => .no) = .ok d := e
  cases h : intsD l with
  | none => rw [h] at e'; cases e'
  | some ns =>
    rw [h] at e'
    cases ns with
    | nil => cases e'
    | cons n ns =>
      cases e'
      have k := (ints_rd h2 h).1
      exact ⟨_, rfl, fun q => ⟨a, n, ns, rfl, (k ▸ h1.sq), q⟩⟩
end
@[simp] theorem maxT_encP (t : Int × Int) : maxTD [encP t] = .ok (.int (max t.1 t.2)) := id rfl
@[simp] theorem minT_encP (t : Int × Int) : minTD [encP t] = .ok (.int (min t.1 t.2)) := id rfl
/-! ### list.count told -/
def cntD : D → D → R D
  | .lst l, x => if x.sc.isSome && allSc l then .ok (.int (l.countP fun y => eqS y x : Nat)) else .no
  | _, _ => .no
theorem sc_flats {K : PySem.W.Frag} {I : Hp} : ∀ {vs : List V} {ds : List D}, RdA K I vs ds → allSc ds = true → vs.all flatV = true
  | _, _, .nil, _ => rfl
  | _, _, .cons (d := d) (ds := r) h q, e => by
    obtain ⟨e1, e2⟩ := Bool.and_eq_true_iff.mp (show (d.sc.isSome && allSc r) = true from e)
    rw [List.all_cons, (sc_flat h e1).1, sc_flats q e2]
    rfl
theorem sc_eqV {K : PySem.W.Frag} {I J : Hp} {v w : V} {d e : D} (h : Rd K I v d) (k : Rd K J w e) (hd : d.sc.isSome = true) (he : e.sc.isSome = true) : eqV v w = eqS d e := by
  obtain ⟨v', hv⟩ := Option.isSome_iff_exists.mp hd
  obtain ⟨w', hw⟩ := Option.isSome_iff_exists.mp he
  unfold eqS
  rw [hv, hw, h.sc hv, k.sc hw]
theorem sc_count {K : PySem.W.Frag} {I J : Hp} {w : V} {e : D} (k : Rd K J w e) (he : e.sc.isSome = true) : ∀ {vs : List V} {ds : List D}, RdA K I vs ds → allSc ds = true → (vs.countP fun z => eqV z w) = ds.countP fun y => eqS y e
  | _, _, .nil, _ => rfl
  | _, _, .cons (d := d) (ds := r) h q, f => by
    obtain ⟨f1, f2⟩ := Bool.and_eq_true_iff.mp (show (d.sc.isSome && allSc r) = true from f)
    rw [List.countP_cons, List.countP_cons, sc_count k he q f2, sc_eqV h k f1 he]
section
variable {X : Cx} {W : WX} {A H0 : Hp} {a b : Expr} {fa fb : F} {pos : Pos}
theorem ve_cntL {apos cpos : Pos} (ha : VE X W A H0 a fa) (hb : VB X W A H0 b fb)
    (hbase : attributeBase a "count" X.env (eval a X.env) = eval a X.env := by rfl)
    (hfew : ((backTo cpos (starEach [b] X.env)).all (fun x => !x.1) && (backToKw cpos (keywordEach [] X.env)).all (fun x => x.1.isSome)
      && decide ([b].length + ([] : List Keyword).length + (if ([] : List Keyword).isEmpty then 0 else 1) < 30)) = true := by rfl)
    (hline : (apos.endLine == cpos.line) = true := by rfl) (hs : starEach [b] X.env = (false, eval b X.env) :: starEach [] X.env := by rfl) (hplain : (backTo cpos (starEach [] X.env)).any (·.1) = false := by rfl) :
    VE X W A H0 (.Call (.Attribute a "count" apos) [b] [] cpos) (f2 cntD (fLs fa) fb) :=
  pe_imp (pe_bm PySem.F.plainAttrs_list PySem.F.slot_list_count PySem.F.type_list_count mt_cntL ha (pa_cons hb pa_nil hs) hbase hfew hline hs hplain) fun σ H Q ⟨env, I, rl, q⟩ => ⟨env, I, rl, by
    have q0 : PostE X.K W σ I H (((fa env).bind lsD).bind fun x => (fb env).bind fun y => cntD x y) Q := q
    cases hf : fa env with
    | er c p => rw [hf] at q0; exact q0
    | no => rw [hf] at q0; exact q0.elim
    | ok d =>
      rw [hf] at q0
      rcases D.lst_or d with ⟨l, rfl⟩ | hd
      · have q1 : PostE X.K W σ I H ((fb env).bind fun y => cntD (.lst l) y) Q := q0
        intro v I1 H1 g1 k1
        obtain ⟨a, vs, rfl, h1, h2⟩ := k1.lst_inv
        have hH : H1 a = some (.lst vs) := g1.ih _ _ h1
        refine ⟨.inl ⟨rfl, vs, .inl (.inl hH)⟩, env, I1, rl.grow g1, ?_⟩
        cases hs2 : fb env with
        | er c p => rw [hs2] at q1; exact fun cls od I2 H2 g2 k2 => q1 cls od I2 H2 (g1.trans g2) k2
        | no => rw [hs2] at q1; exact q1.elim
        | ok e =>
          rw [hs2] at q1
          have q2 : PostE X.K W σ I H (if e.sc.isSome && allSc l then R.ok (.int (l.countP fun y => eqS y e : Nat)) else .no) Q := q1
          intro w I2 H2 g2 k2
          by_cases hc : (e.sc.isSome && allSc l) = true
          · rw [if_pos hc] at q2
            obtain ⟨c1, c2⟩ := Bool.and_eq_true_iff.mp hc
            refine ⟨a, vs, w, rfl, rfl, .inl (.inl (g2.h _ _ hH)), (sc_flat k2 c1).1, sc_flats h2 c2, ?_⟩
            rw [sc_count k2 c1 h2 c2]
            exact q2 _ I2 H2 (g1.trans g2) .int
          · rw [if_neg hc] at q2; exact q2.elim
      · cases d <;> first | exact absurd rfl (hd _) | exact q0.elim⟩
end
end BW
/-! BCore24: defs called within a suite. -/
namespace BW
open PySem PySem.Spec PyProof.Rows L2
open Evl (Ex Ex.refl Ex.trans Ex.new ex_rd ex_l ex_t)
theorem _root_.L2H.RoomH.units {k : Nat} {A : Around} (r : L2H.RoomH k A) : A.units + 64 < cLine := by have := r.un; omega
/-- a def that may be called while an error is handled -/
structure FnC (P : Program) (w : World) (K : PySem.W.Frag) (mg : Str → Option Value) (base : Heap) (CX : CXT) (k : Nat) (f : Addr) (fd : FuncData) (ps : List Str) (sp : Sp) : Prop where
  len : ∀ vs H Q E, sp vs H Q E → vs.length = ps.length
  run : ∀ (A : Around) (outer : List Env) (s : Shared) (H : Hp) (args : Args) (us : List Value) (vs : List V) (Q : VK) (E : XK), L2H.RoomH k A → Env0 P w K mg base A outer s H → BindsTo s fd args (ps.zip us) → Vals vs us → sp vs H Q E → codeAny (model P w) A (.call (.ref f) args) (CR CX outer P w H s Q E) s
/-- its body's context -/
abbrev cxC (CX : CXT) (P : Program) (w : World) (K : PySem.W.Frag) (mg : Str → Option Value) (base : Heap) (N : List Str) (qual : Str) (scope : Scope) (f : Addr) (cd : Value) (A : Around) (outer : List Env) (s : Shared) (H : Hp) (E : XK) : Cx := { cxOf CX P w K mg base N qual scope f cd A outer s H E with calm := false }
section
variable {P : Program} {w : World} {K : PySem.W.Frag} {mg : Str → Option Value} {base : Heap} {CX : CXT}
theorem inv_startC {N ps : List Str} {qual : Str} {scope : Scope} {f : Addr} {cd : Value} {A : Around} {outer : List Env} {s s1 : Shared} {H : Hp} {E : XK} {us : List Value} {vs : List V} (S : FnScope N ps scope) (e0 : Env0 P w K mg base A outer s H) (hl : vs.length = ps.length) (r : Vals vs us)
    (x : InCallC s s.heap.objs.size (bindL (envOfC qual scope s.heap.objs.size f cd).kindOf (ps.zip us) fun _ => none) (cellsFrom (s.heap.objs.size + 1) scope.names []) (bindC (envOfC qual scope s.heap.objs.size f cd).kindOf (ps.zip us) fun _ => none) s1) :
    Inv (cxC CX P w K mg base N qual scope f cd A outer s H E) [] (L2.start N vs) H s1 := by
  have e1 : Env0 P w K mg base { A with handled := none } outer s H := ⟨e0.frames, e0.mod, e0.bs, e0.bsz, e0.funs, e0.frf, e0.hok, e0.bare⟩
  have I := inv_start (CX := CX) (E := E) (A := { A with handled := none }) S rfl e1 hl r x
  exact ⟨⟨I.ok.mod, I.ok.kind, I.ok.glob, I.ok.blt, I.ok.above, I.ok.inj, I.ok.has, I.ok.cab, (fun z => by cases z), I.ok.frames, I.ok.stk, I.ok.exf, I.ok.bs, I.ok.bsz, I.ok.noex, I.ok.exfs, I.ok.funs, I.ok.frf⟩,
    I.os, I.bare, I.base, I.loc, I.cell, I.free, I.freeC, I.pin, I.hok, I.len⟩
theorem fnC_of {x qual : Str} {params : Arguments} {body : List Stmt} {scope : Scope} {f : Addr} {fd : FuncData} {N ps : List Str} {sp : Sp} {k : Nat} (F0 : FunD K x qual params body scope [] [] f fd) (S : FnScope N ps scope) (len : ∀ vs H Q E, sp vs H Q E → vs.length = ps.length)
    (hbody : ∀ (cdv : Value) (A : Around) (outer : List Env) (s : Shared) (H : Hp) (vs : List V) (Q : VK) (E : XK), L2H.RoomH k (A.deeper (envOfC qual scope s.heap.objs.size f cdv)) → sp vs H Q E →
      ∃ t, PSs (cxC CX P w K mg base N qual scope f cdv A outer s H E) body t ∧ t { nx := fun _ H' => Q .non H', rt := Q } (L2.start N vs) H) : FnC P w K mg base CX (k + 1) f fd ps sp := by
  obtain ⟨oc, od, dV, kV, doc, pm, an, cdv, ct, osl, rfl, lk, hcd, _, _⟩ := F0.ex
  refine ⟨len, fun A outer s H args us vs Q E room e0 bnd rel hsp => ?_⟩
  have hlen := len _ _ _ _ hsp
  have inK : K.In s.heap := e0.mod.kin.keeps fun b o e => (e0.bs b o e).1
  have noLim : s.heap.NoLimit := e0.mod.nolimit.keeps fun b o e => (e0.bs b o e).1
  have kinds : ∀ y ∈ ps.zip us, scope.names.lookup y.1 = some .local ∨ (scope.names.lookup y.1 = some .cell ∧ ((cellsFrom (s.heap.objs.size + 1) scope.names []).lookup y.1).isSome = true) := fun ⟨n, v⟩ hy =>
    (S.par n (List.of_mem_zip hy).1).elim .inl fun q => .inr ⟨q, PySem.W.cellsFrom_some _ _ _ (.inl q)⟩
  refine codeAny_call_function room.depth (inK _ _ lk) rfl S.co S.gen rfl (PySem.W.codeRec_of inK hcd) (bnd _ _ _ _ ?_)
  refine wpAny_newFunctionEnv_cells S.kind kinds fun env he s1 x => ?_
  subst he
  refine ⟨noLim.keeps x.toInCall.keep, codeAny_func ?_⟩
  obtain ⟨t, ht, hq⟩ := hbody cdv A outer s H vs Q E (room.deeper _) hsp
  have inv : Inv (cxC CX P w K mg base N qual scope f cdv A outer s H E) [] (L2.start N vs) H s1 := inv_startC S e0 hlen rel x
  refine wpAny_mono (ht.run [] s1 (L2.start N vs) H _ inv hq) (fun fl s' hs => ?_) fun e s' hs => hs
  match fl, hs with
  | .ret u, ⟨v, σ', H', J, rv, q⟩ => exact (⟨v, H', J.os, J.bare, J.base, J.hok, rv, q⟩ : CE outer P w H s Q u s')
  | .next, ⟨σ', H', J, q⟩ => exact (⟨V.non, H', J.os, J.bare, J.base, J.hok, rfl, q⟩ : CE outer P w H s Q .none s')
  | .brk, ⟨_, _, _, q⟩ => exact q.elim
  | .cont, ⟨_, _, _, q⟩ => exact q.elim
/-- where such a def's body stands -/
abbrev Cc (P : Program) (w : World) (K : PySem.W.Frag) (mg : Str → Option Value) (base : Heap) (N : List Str) (qual : Str) (st : Stmt) (f : Addr) (cdv : Value) (A : Around) (outer : List PySem.Env) (s : Shared) (H : Hp) (E : XK) : Cx := cxC (L2.CX P w) P w K mg base N qual (defScope st) f cdv A outer s H E
/-- it keeps the promise that its body tells -/
theorem fn_okC {x qual : Str} {st : Stmt} {f : Addr} {fd : FuncData} {N ps : List Str} {k : Nat} {fl : List Bool} {g : G} (F0 : Fn K x qual st f fd) (S : FnScope N ps (defScope st)) (hfl : fl.length = ps.length := by rfl) (hn : fl.length ≤ N.length := by decide)
    (body : ∀ (cdv : Value) (A : Around) (outer : List PySem.Env) (s : Shared) (H I : Hp) (E : XK), L2H.RoomH k (A.deeper (envOfC qual (defScope st) s.heap.objs.size f cdv)) → Takes (Cc P w K mg base N qual st f cdv A outer s H E) (WB E) →
      VSs (Cc P w K mg base N qual st f cdv A outer s H E) (WB E) I H false (defBody st) g) :
    FnC P w K mg base (L2.CX P w) (k + 1) f fd ps (spF K fl (defD N.length fl g)) := by
  refine fnC_of F0 S (spF_len hfl) fun cdv A outer s H vs Q E room h => ?_
  obtain ⟨ds, I, ie, ha, q⟩ := h
  refine ⟨_, body cdv A outer s H I E room (takes_of rfl rfl rfl rfl), env0 N.length fl ds, I, rel0 ie ha hn, ?_⟩
  have hl : ds.length = fl.length := argsLen ha
  have q1 : PostE K (WB E) [] I H (if ds.length = fl.length then outD (g (env0 N.length fl ds)) else .no) Q := q
  rw [if_pos hl] at q1
  cases hg : g (env0 N.length fl ds) with
  | nx e => rw [hg] at q1; exact fun σ' I' H' r _ => q1 .non I' H' r.g .non
  | rt d => rw [hg] at q1; exact q1
  | er e c p => rw [hg] at q1; exact fun σ' I' H' cls od r _ kk => q1 cls od I' H' r.g kk
  | bk e => rw [hg] at q1; exact q1.elim
  | ct e => rw [hg] at q1; exact q1.elim
  | no => rw [hg] at q1; exact q1.elim
structure CalC (P : Program) (w : World) (K : PySem.W.Frag) (mg : Str → Option Value) (base : Heap) (x : Str) (k : Nat) (fl : List Bool) (m : List D → R D) : Prop where
  ex : ∃ (f : Addr) (fd : FuncData) (ps : List Str), FnC P w K mg base (L2.CX P w) k f fd ps (spF K fl m) ∧ mg x = some (.ref f) ∧ PySem.W.keepIn K (.ref f) = true ∧ Binds K fd ps []
end
section
variable {X : Cx} {CX : CXT} {k : Nat} {f : Addr} {fd : FuncData} {ps : List Str} {sp : Sp} {E : L2.St → XK}
theorem fnC_run {pins : List (Addr × Obj)} {σ : L2.St} {H : Hp} {s : Shared} {Q : VK} {us : List Value} {vs : List V} (ok : FnC X.prog X.w X.K X.mg X.base CX k f fd ps sp) (room : L2H.RoomH k X.A) (bnd : Binds X.K fd ps []) (out : PassesAt CX X σ (E σ)) (inv : Inv X pins σ H s) (rel : Vals vs us) (q : sp vs H Q (E σ)) :
    wpAny (model X.prog X.w) X.A (call (.ref f) us) (EP X pins σ Q) X.xe s := by
  have len : us.length = ps.length := rel.length.symm.trans (ok.len _ _ _ _ q)
  have bt := bnd s us inv.kIn (by rw [List.append_nil]; exact len)
  rw [List.append_nil] at bt
  refine wpAny_call (codeAny_mono (ok.run X.A X.stack s H ⟨us, []⟩ us vs Q (E σ) room inv.env0 bt rel q) fun r t hr => ?_)
  match r, hr with
  | .error e, hr => exact out pins H s e t inv hr
  | .ok (.ret u), hr => exact inv.after hr
end
section
variable {X : Cx} {W : WX} {A H0 : Hp} {e : Expr} {pos : Pos} {x : Str} {j k : Nat} {fl : List Bool} {m : List D → R D} {es : List Expr} {fs : FA} {p : Pos}
theorem CalC.keeps (C : CalC X.prog X.w X.K X.mg X.base x k fl m) (hr : L2H.RoomH j X.A) (tk : Takes X W) (hk : k ≤ j) (hg : Gl X x) (hdb : (x == ("__debug__" : Str)) = false) : Keeps X W x (spF X.K fl m) := fun e es t p pos ha he hpl => by
  obtain ⟨f, fd, ps, F0, h1, h2, h3⟩ := C.ex
  refine ⟨fun pins s σ H Q I h => ?_⟩
  refine wpAny_Call_Name_kw (ld_glob I hg h1 ?_ hdb)
  refine PySem.W.callWith_K (h₀ := X.base) I.ok.mod.kin h2 (thn (ha.run pos pins s σ H _ I h) fun us s1 ⟨vs, H1, I1, r, q⟩ => ⟨I1.kIn, ?_⟩) he hpl
  exact fnC_run (E := WE W) F0 (hr.mono hk) h3 (passAt tk σ) I1 r q
theorem ve_keeps (C : Keeps X W x (spF X.K fl m)) (ha : VA X W A H0 (e :: es) fl fs) (he : starEach (e :: es) X.env = (false, eval e X.env) :: starEach es X.env) (hpl : (backTo pos (starEach es X.env)).any (·.1) = false) :
    VE X W A H0 (.Call (.Name x p) (e :: es) [] pos) (fA m fs) := pe_imp (C e es _ p pos ha he hpl) fun σ H Q ⟨env, I, rl, q⟩ => ⟨env, I, rl, by
  have q1 : PostE X.K W σ I H ((fs env).bind m) Q := q
  cases hs : fs env with
  | er c p => rw [hs] at q1; exact q1
  | no => rw [hs] at q1; exact q1.elim
  | ok ds =>
    rw [hs] at q1
    have q2 : PostE X.K W σ I H (m ds) Q := q1
    refine fun vs I1 H1 g1 k1 => ⟨ds, I1, g1.ih, k1, ?_⟩
    cases hmd : m ds with
    | no => rw [hmd] at q2; exact q2.elim
    | er c p => rw [hmd] at q2; exact fun cls od I2 H2 g2 k2 => q2 cls od I2 H2 (g1.trans g2) k2
    | ok d => rw [hmd] at q2; exact fun v I2 H2 g2 k2 => q2 v I2 H2 (g1.trans g2) k2⟩
/-- a def called within a suite -/
theorem ve_calC (C : CalC X.prog X.w X.K X.mg X.base x k fl m) (hr : L2H.RoomH j X.A) (tk : Takes X W) (ha : VA X W A H0 (e :: es) fl fs) (hk : k ≤ j := by decide) (hg : Gl X x := by rfl) (hdb : (x == ("__debug__" : Str)) = false := by decide) (he : starEach (e :: es) X.env = (false, eval e X.env) :: starEach es X.env := by rfl) (hpl : (backTo pos (starEach es X.env)).any (·.1) = false := by rfl) :
    VE X W A H0 (.Call (.Name x p) (e :: es) [] pos) (fA m fs) := ve_keeps (C.keeps hr tk hk hg hdb) ha he hpl
theorem roomS {a : Addr} {pn : List (Addr × Obj)} (hr : Room j X.A) : L2H.RoomH j (Cx.inSuite X a pn).A := ⟨hr.dp, hr.un⟩
end
end BW
/-! BCore25: list(range(a, b)). -/
namespace BW
open PySem PySem.Spec PyProof.Rows L2
open Evl (Ex Ex.refl Ex.trans Ex.new ex_rd ex_l ex_t)
def rg2D : D → D → R D
  | .int i, .int j => if (0 ≤ i ∧ i ≤ 16777216) ∧ 0 ≤ j ∧ j ≤ 16777216 then .ok (.lst (rangeL i (j - i).toNat)) else .no
  | _, _ => .no
theorem rd_range {K : PySem.W.Frag} {I : Hp} (i j : Int) : RdA K I (rgV i j) (rangeL i (j - i).toNat) := by
  unfold rgV rangeL
  generalize (j - i).toNat = k
  have : ∀ l : List Nat, RdA K I (l.map fun k => V.int (i + (k : Nat))) (l.map fun k => D.int (i + (k : Nat))) := fun l => by
    induction l with
    | nil => exact .nil
    | cons a r ih => exact .cons .int ih
  exact this _
section
variable {X : Cx} {W : WX} {A H0 : Hp} {a b : Expr} {fa fb : F} {pos : Pos}
theorem vf_listRg2 {p p2 pos2 : Pos} (hc : X.calm = true) (hm : X.mg "list" = none) (hm2 : X.mg "range" = none) (ha : VE X W A H0 a fa) (hb : VE X W A H0 b fb) (hg : Gl X "list" := by rfl) (hg2 : Gl X "range" := by rfl) (na : starEach [a, b] X.env = (false, eval a X.env) :: starEach [b] X.env := by rfl)
    (nb : starEach [b] X.env = (false, eval b X.env) :: starEach [] X.env := by rfl) (hp : (backTo pos2 (starEach [b] X.env)).any (·.1) = false := by rfl)
    (na2 : starEach [.Call (.Name "range" p2) [a, b] [] pos2] X.env = (false, eval (.Call (.Name "range" p2) [a, b] [] pos2) X.env) :: starEach [] X.env := by rfl) : VF X W A H0 (.Call (.Name "list" p) [.Call (.Name "range" p2) [a, b] [] pos2] [] pos) (f2 rg2D fa fb) :=
  pe_imp (pe_listRg hc hg hm (prg_2 hg2 hm2 ha hb na nb hp) na2) fun σ H Q ⟨env, I, rl, q⟩ => ⟨env, I, rl, by
    have q0 : PostF X.K W σ I H ((fa env).bind fun x => (fb env).bind fun y => rg2D x y) Q := q
    cases hf : fa env with
    | er c p => rw [hf] at q0; exact q0
    | no => rw [hf] at q0; exact q0.elim
    | ok d =>
      rw [hf] at q0
      have q1 : PostF X.K W σ I H ((fb env).bind fun y => rg2D d y) Q := q0
      intro v I1 H1 g1 k1
      refine ⟨env, I1, rl.grow g1, ?_⟩
      cases hs : fb env with
      | er c p => rw [hs] at q1; exact fun cls od I2 H2 g2 k2 => q1 cls od I2 H2 (g1.trans g2) k2
      | no => rw [hs] at q1; exact q1.elim
      | ok e =>
        rw [hs] at q1
        have q2 : PostF X.K W σ I H (rg2D d e) Q := q1
        intro u I2 H2 g2 k2
        cases d <;> try (exact q2.elim)
        rename_i i
        cases e <;> try (exact q2.elim)
        rename_i j
        rw [k1.int_inv, k2.int_inv]
        have q3 : PostF X.K W σ I H (if (0 ≤ i ∧ i ≤ 16777216) ∧ 0 ≤ j ∧ j ≤ 16777216 then .ok (.lst (rangeL i (j - i).toNat)) else .no) Q := q2
        by_cases hz : (0 ≤ i ∧ i ≤ 16777216) ∧ 0 ≤ j ∧ j ≤ 16777216
        · rw [if_pos hz] at q3
          have gg := g1.trans g2
          refine ⟨i, j, rfl, rfl, RgOk.of_le hz.1.1 hz.2.2 hz.1.2 hz.2.1, fun m hm' => ?_⟩
          exact q3 m _ I2 _ (gg.trans (Grow.hid gg.ih (Ex.new hm'))) (Evl.fresh_back gg.h hm') (Evl.fresh_back gg.ih hm') upd_same (rd_range i j)
        · rw [if_neg hz] at q3
          exact q3.elim⟩
end
@[simp] theorem s_rg2 {i j : Int} (h1 : 0 ≤ i) (h2 : i ≤ 16777216) (h3 : 0 ≤ j) (h4 : j ≤ 16777216) : rg2D (.int i) (.int j) = .ok (.lst (rangeL i (j - i).toNat)) := by
  have e : rg2D (.int i) (.int j) = if (0 ≤ i ∧ i ≤ 16777216) ∧ 0 ≤ j ∧ j ≤ 16777216 then .ok (.lst (rangeL i (j - i).toNat)) else .no := by simp only [rg2D]
  rw [e, if_pos ⟨⟨h1, h2⟩, h3, h4⟩]
end BW
/-! BCore26: slices, sums of lists: rewriting. -/
namespace BW
open PySem PySem.Spec PyProof.Rows L2
def R.sl (d : R D) (lo hi : R (Option Int)) : R D := d.bind fun d => lo.bind fun l => hi.bind fun h => sliceD d l h
@[simp] theorem sl_ok (d l h) : R.sl (.ok d) (.ok l) (.ok h) = sliceD d l h := id rfl
@[simp] theorem s_fSl (f lo hi e) : fSl f lo hi e = R.sl (f e) (lo e) (hi e) := id rfl
@[simp] theorem s_oN (e) : oN e = .ok none := id rfl
def oI : D → R (Option Int)
  | .int i => .ok (some i)
  | _ => .no
@[simp] theorem s_oI (i) : oI (.int i) = .ok (some i) := id rfl
@[simp] theorem s_oS (f e) : oS f e = (f e).bind oI := by
  unfold oS
  congr 1
theorem cut_take {α : Type} (l : List α) {k : Int} (h : 0 ≤ k) : cutL l none (some k) = l.take k.toNat := by
  obtain ⟨j, rfl⟩ := Int.eq_ofNat_of_zero_le h
  unfold cutL
  rw [HT.sIx_none, HT.sIx_nat, Int.toNat_natCast, List.drop_zero, Nat.sub_zero, Nat.min_def]
  split
  · rfl
  · rw [List.take_of_length_le (Nat.le_refl _), List.take_of_length_le (by omega)]
theorem cut_drop {α : Type} (l : List α) {k : Int} (h : 0 ≤ k) : cutL l (some k) none = l.drop k.toNat := by
  obtain ⟨j, rfl⟩ := Int.eq_ofNat_of_zero_le h
  unfold cutL
  rw [HT.sIx_none, HT.sIx_nat, Int.toNat_natCast, Nat.min_def]
  split
  · rw [List.take_of_length_le (by rw [List.length_drop]; omega)]
  · rw [List.drop_of_length_le (Nat.le_refl _), List.drop_of_length_le (by omega), List.take_nil]
@[simp] theorem sl_take_l (l) {k : Int} (h : 0 ≤ k) : sliceD (.lst l) none (some k) = .ok (.lst (l.take k.toNat)) := by
  show R.ok (D.lst (cutL l none (some k))) = _
  rw [cut_take l h]
@[simp] theorem sl_take_t (l) {k : Int} (h : 0 ≤ k) : sliceD (.tup l) none (some k) = .ok (.tup (l.take k.toNat)) := by
  show R.ok (D.tup (cutL l none (some k))) = _
  rw [cut_take l h]
@[simp] theorem sl_drop_l (l) {k : Int} (h : 0 ≤ k) : sliceD (.lst l) (some k) none = .ok (.lst (l.drop k.toNat)) := by
  show R.ok (D.lst (cutL l (some k) none)) = _
  rw [cut_drop l h]
@[simp] theorem sl_drop_t (l) {k : Int} (h : 0 ≤ k) : sliceD (.tup l) (some k) none = .ok (.tup (l.drop k.toNat)) := by
  show R.ok (D.tup (cutL l (some k) none)) = _
  rw [cut_drop l h]
@[simp] theorem sl_drop_s (l) {k : Int} (h : 0 ≤ k) : sliceD (.scr l) (some k) none = .ok (.lst ((l.drop k.toNat).map D.int)) := by
  show R.ok (D.lst ((cutL l (some k) none).map D.int)) = _
  rw [cut_drop l h]
@[simp] theorem sl_take_s (l) {k : Int} (h : 0 ≤ k) : sliceD (.scr l) none (some k) = .ok (.lst ((l.take k.toNat).map D.int)) := by
  show R.ok (D.lst ((cutL l none (some k)).map D.int)) = _
  rw [cut_take l h]
@[simp] theorem add_l {x y : List D} (h : x.length + y.length ≤ 16777216) : addD (.lst x) (.lst y) = .ok (.lst (x ++ y)) := if_pos (sz_line ▸ h)
@[simp] theorem add_t {x y : List D} (h : x.length + y.length ≤ 16777216) : addD (.tup x) (.tup y) = .ok (.tup (x ++ y)) := if_pos (sz_line ▸ h)

end BW
/-! BCore27: zip of a list or a tuple with a list or a tuple; reversed. -/
namespace BW
open PySem PySem.Spec PyProof.Rows L2
open Evl (Ex Ex.refl Ex.trans Ex.new ex_rd ex_l ex_t)
/-- a list's kind, a tuple's -/
inductive Kd where
  | l | t
section
variable {K : PySem.W.Frag} {I H : Hp} {a b : Addr} {vs ws : List V} {ds es : List D}
end
section
variable {X : Cx} {W : WX} {A H0 : Hp} {a b c e tg : Expr} {fa fb fc f : F} {pos : Pos} {tl : TE}
end
end BW
/-! BCore28: count of a list or a tuple; dicts with whole numbers for keys. -/
namespace BW
open PySem PySem.Spec PyProof.Rows L2
open Evl (Ex Ex.refl Ex.trans Ex.new ex_rd ex_l ex_t)
section
variable {X : Cx} {W : WX} {A H0 : Hp} {fr : Bool} {a b e o i : Expr} {fa fb f g1 g2 : F} {pos : Pos}
/-- one of two rules, by the value -/
theorem ve_alt (h1 : VE X W A H0 e g1) (h2 : VE X W A H0 e g2) (hf : ∀ env, f env = g1 env ∨ f env = g2 env ∨ f env = .no) : VE X W A H0 e f := ⟨fun pins s σ H Q I ⟨env, J, r, q⟩ => by
  rcases hf env with k | k | k
  · rw [k] at q; exact h1.run pins s σ H Q I ⟨env, J, r, q⟩
  · rw [k] at q; exact h2.run pins s σ H Q I ⟨env, J, r, q⟩
  · rw [k] at q; exact q.elim⟩
def cntTD : D → D → R D
  | .tup l, x => if x.sc.isSome && allSc l then .ok (.int (l.countP fun y => eqS y x : Nat)) else .no
  | _, _ => .no
def tpD (d : D) : R D := match d with
  | .tup l => .ok (.tup l)
  | _ => .no
theorem ve_cntT {apos cpos : Pos} (ha : VE X W A H0 a fa) (hb : VB X W A H0 b fb) (hbase : attributeBase a "count" X.env (eval a X.env) = eval a X.env := by rfl)
    (hfew : ((backTo cpos (starEach [b] X.env)).all (fun x => !x.1) && (backToKw cpos (keywordEach [] X.env)).all (fun x => x.1.isSome) && decide ([b].length + ([] : List Keyword).length + (if ([] : List Keyword).isEmpty then 0 else 1) < 30)) = true := by rfl)
    (hline : (apos.endLine == cpos.line) = true := by rfl) (hs : starEach [b] X.env = (false, eval b X.env) :: starEach [] X.env := by rfl) (hplain : (backTo cpos (starEach [] X.env)).any (·.1) = false := by rfl) :
    VE X W A H0 (.Call (.Attribute a "count" apos) [b] [] cpos) (f2 cntTD (f1 tpD fa) fb) :=
  pe_imp (pe_tm PySem.F.plainAttrs_tuple PySem.F.slot_tuple_count PySem.F.type_tuple_count mt_cntT ha (pa_cons hb pa_nil hs) hbase hfew hline hs hplain) fun σ H Q ⟨env, I, rl, q⟩ => ⟨env, I, rl, by
    have q0 : PostE X.K W σ I H (((fa env).bind tpD).bind fun x => (fb env).bind fun y => cntTD x y) Q := q
    cases hf : fa env with
    | er c p => rw [hf] at q0; exact q0
    | no => rw [hf] at q0; exact q0.elim
    | ok d =>
      rw [hf] at q0
      cases d with
      | tup l =>
        have q1 : PostE X.K W σ I H ((fb env).bind fun y => cntTD (.tup l) y) Q := q0
        intro v I1 H1 gg1 k1
        obtain ⟨p, vs, rfl, ⟨ob, hd, h1⟩, h2⟩ := k1.tup_inv
        have hH := gg1.ih _ _ h1
        refine ⟨⟨p, ob, vs, rfl, hH, hd⟩, env, I1, rl.grow gg1, ?_⟩
        cases hs2 : fb env with
        | er c p => rw [hs2] at q1; exact fun cls od I2 H2 gg2 k2 => q1 cls od I2 H2 (gg1.trans gg2) k2
        | no => rw [hs2] at q1; exact q1.elim
        | ok y =>
          rw [hs2] at q1
          have q2 : PostE X.K W σ I H (if y.sc.isSome && allSc l then R.ok (.int (l.countP fun z => eqS z y : Nat)) else .no) Q := q1
          intro w I2 H2 gg2 k2
          by_cases hc : (y.sc.isSome && allSc l) = true
          · rw [if_pos hc] at q2
            obtain ⟨c1, c2⟩ := Bool.and_eq_true_iff.mp hc
            refine ⟨p, vs, w, rfl, rfl, .inl (.inr ⟨ob, gg2.h _ _ hH⟩), (sc_flat k2 c1).1, sc_flats h2 c2, ?_⟩
            rw [sc_count k2 c1 h2 c2]
            exact q2 _ I2 H2 (gg1.trans gg2) .int
          · rw [if_neg hc] at q2; exact q2.elim
      | _ => exact q0.elim⟩
/-- count of a list or a tuple -/
def fCnt (fa fb : F) : F := fun env => (fa env).bind fun
  | .lst l => (fb env).bind fun y => cntD (.lst l) y
  | .tup l => (fb env).bind fun y => cntTD (.tup l) y
  | _ => .no
theorem ve_cnt {apos cpos : Pos} (ha : VE X W A H0 a fa) (hb : VB X W A H0 b fb) (hbase : attributeBase a "count" X.env (eval a X.env) = eval a X.env := by rfl)
    (hfew : ((backTo cpos (starEach [b] X.env)).all (fun x => !x.1) && (backToKw cpos (keywordEach [] X.env)).all (fun x => x.1.isSome) && decide ([b].length + ([] : List Keyword).length + (if ([] : List Keyword).isEmpty then 0 else 1) < 30)) = true := by rfl)
    (hline : (apos.endLine == cpos.line) = true := by rfl) (hs : starEach [b] X.env = (false, eval b X.env) :: starEach [] X.env := by rfl) (hplain : (backTo cpos (starEach [] X.env)).any (·.1) = false := by rfl) :
    VE X W A H0 (.Call (.Attribute a "count" apos) [b] [] cpos) (fCnt fa fb) :=
  ve_alt (ve_cntL ha hb hbase hfew hline hs hplain) (ve_cntT ha hb hbase hfew hline hs hplain) fun env => by
    unfold fCnt f2 fLs f1
    cases fa env with
    | ok d => cases d <;> first | exact .inl rfl | exact .inr (.inl rfl) | exact .inr (.inr rfl)
    | er c p => exact .inl rfl
    | no => exact .inr (.inr rfl)
end
/-! ### dicts, their keys whole numbers -/
/-! what a name of a dict tells -/
section
variable {X : Cx} {W : WX} {A H0 : Hp} {fr : Bool} {a b e o ie : Expr} {fa fb fk f : F} {pos : Pos} {g : G} {rest : List Stmt}
/-! k in d -/
/-! d[k] -/
/-! ### statements -/
end
end BW
/-! BCore29: statements over dicts; a dict walked; reversed. -/
namespace BW
open PySem PySem.Spec PyProof.Rows L2
open Evl (Ex Ex.refl Ex.trans Ex.new ex_rd ex_l ex_t)
section
variable {X : Cx} {W : WX} {A H0 : Hp} {fr : Bool} {a b e o ie tg : Expr} {fa fb fk f : F} {pos : Pos} {g : G}
/-! a dict walked: its keys -/
end
end BW
/-! BCore30: a list turned about; ranges with a step. -/
namespace BW
open PySem PySem.Spec PyProof.Rows L2
open Evl (Ex Ex.refl Ex.trans Ex.new ex_rd ex_l ex_t)
section
variable {prog : Program} {w : World} {A : Around} {E : Value → Shared → Prop} {s : Shared} {it l : Addr} {items : Array Value}
end
section
variable {X : Cx} {W : WX} {A H0 : Hp} {a e : Expr} {fa f : F} {pos : Pos}
/-! a range with a step above nought -/
end
end BW
/-! BCore31: a name's own list lent to one expression. -/
namespace BW
open PySem PySem.Spec PyProof.Rows L2
open Evl (Ex Ex.refl Ex.trans Ex.new ex_rd ex_l ex_t)
theorem back_growJ {I H J J' H' : Hp} (ij : Ex I J) (ih : Ex I H) (jh : Ex J H) (g : Grow J H J' H') : Grow I H (back I J J') H' := by
  refine ⟨back_i, g.h, (back_le (ij.trans g.i)).trans g.ih, fun a o h => ?_⟩
  unfold back at h
  cases q : I a with
  | some u => rw [q] at h; exact .inl h
  | none =>
    rw [q] at h
    cases q2 : J a with
    | some u => rw [q2] at h; cases h
    | none =>
      rw [q2] at h
      rcases g.new a o h with z | z
      · rw [q2] at z; cases z
      · exact .inr z
section
variable {X : Cx} {W : WX} {A H0 : Hp} {e : Expr} {f : F}
theorem lend_post {K : PySem.W.Frag} {W : WX} {σ : L2.St} {I I' H : Hp} {r : R D} {Q : VK} (ih : Ex I H) (ij : Ex I I') (jh : Ex I' H) (hl : ∀ b o, I' b = some o → I b = some o ∨ ∃ us, o = .lst us) (q : PostE K W σ I H (r.bind lfD) Q) : PostE K W σ I' H r Q := by
  cases r with
  | no => exact q.elim
  | er c p => exact fun cls od J' H' g k => q cls od _ H' (back_growJ ij ih jh g) (k.back ij g.i hl)
  | ok d =>
    have q3 : PostE K W σ I H (if lf d then R.ok d else R.no) Q := q
    by_cases z : lf d = true
    · rw [if_pos z] at q3
      exact fun v J' H' g k => q3 v _ H' (back_growJ ij ih jh g) (k.back ij g.i hl z)
    · rw [if_neg z] at q3
      exact q3.elim
end
end BW
/-! BCore32: defs that are handed a new list of their own, and change it. -/
namespace BW
open PySem PySem.Spec PyProof.Rows L2
open Evl (Ex Ex.refl Ex.trans Ex.new ex_rd ex_l ex_t)
def less1 (H : Hp) (a : Addr) : Hp := fun x => if x = a then none else H x
theorem less1_ne {H : Hp} {a b : Addr} (h : b ≠ a) : less1 H a b = H b := if_neg h
theorem less1_eq {H : Hp} {a : Addr} : less1 H a a = none := if_pos rfl
theorem less1_ex {H : Hp} {a : Addr} : Ex (less1 H a) H := fun b o h => by
  by_cases z : b = a
  · rw [z, less1_eq] at h; cases h
  · rw [less1_ne z] at h; exact h
/-- the first argument: a new list, the def's own -/
def spO (K : PySem.W.Frag) (m : List D → R D) : Sp := fun vs H Q E => ∃ (a : Addr) (xs : List V) (l : List D) (v : V) (d : D) (I : Hp), vs = [.ref a, v] ∧ Ex I H ∧ I a = none ∧ H a = some (.lst xs) ∧ RdA K I xs l ∧ Rd K I v d ∧ PostE K (fun cls od _ H' => E cls od H') [] I (less1 H a) (m [.lst l, d]) Q
section
variable {P : Program} {w : World} {K : PySem.W.Frag} {mg : Str → Option Value} {base : Heap}
end
structure CalO (P : Program) (w : World) (K : PySem.W.Frag) (mg : Str → Option Value) (base : Heap) (x : Str) (k : Nat) (m : List D → R D) : Prop where
  ex : ∃ (f : Addr) (fd : FuncData) (ps : List Str), FnOk P w K mg base (L2.CX P w) k f fd ps (spO K m) ∧ mg x = some (.ref f) ∧ PySem.W.keepIn K (.ref f) = true ∧ Binds K fd ps []
section
variable {X : Cx} {W : WX} {A H0 : Hp} {e e2 : Expr} {fa fb : F} {pos : Pos} {x : Str} {j k : Nat} {m : List D → R D} {p : Pos}
end
end BW
/-! BCore33: defs that hand back a new list, or None. -/
namespace BW
open PySem PySem.Spec PyProof.Rows L2
open Evl (Ex Ex.refl Ex.trans Ex.new ex_rd ex_l ex_t)
def PostP (K : PySem.W.Frag) (W : WX) (σ : L2.St) (I H : Hp) (r : R D) (Q : VK) : Prop := match r with
  | .ok (.lst ds) => ∀ a vs I' H', Grow I H I' H' → H a = none → I' a = none → H' a = some (.lst vs) → RdA K I' vs ds → Q (.ref a) H'
  | .ok .non => ∀ I' H', Grow I H I' H' → Q .non H'
  | .er c p => ∀ cls od I' H', Grow I H I' H' → ErrIs K c p cls od I' → W cls od σ H'
  | _ => False
section
variable {X : Cx} {W : WX} {A H0 : Hp} {e : Expr} {f : F} {pos : Pos}
end
def spP (K : PySem.W.Frag) (fl : List Bool) (m : List D → R D) : Sp := fun vs H Q E => ∃ ds I, Ex I H ∧ ArgsOk K I H fl vs ds ∧ PostP K (fun cls od _ H' => E cls od H') [] I H (m ds) Q
section
variable {P : Program} {w : World} {K : PySem.W.Frag} {mg : Str → Option Value} {base : Heap}
structure CalP (P : Program) (w : World) (K : PySem.W.Frag) (mg : Str → Option Value) (base : Heap) (x : Str) (k : Nat) (fl : List Bool) (m : List D → R D) : Prop where
  ex : ∃ (f : Addr) (fd : FuncData) (ps : List Str), FnOk P w K mg base (L2.CX P w) k f fd ps (spP K fl m) ∧ mg x = some (.ref f) ∧ PySem.W.keepIn K (.ref f) = true ∧ Binds K fd ps []
end
section
variable {X : Cx} {W : WX} {A H0 : Hp} {e : Expr} {pos : Pos} {x : Str} {j k : Nat} {fl : List Bool} {m : List D → R D} {es : List Expr} {fs : FA} {p : Pos}
end
end BW
/-! BCore34: a, b = x, y. -/
namespace BW
open PySem PySem.Spec PyProof.Rows L2
open Evl (Ex Ex.refl Ex.trans Ex.new ex_rd ex_l ex_t)
def gPar (i j : Nat) (fa fb : F) : G := fun env => .of env (fa env) fun d => .of env (fb env) fun e => .nx ((env.set i (.im d)).set j (.im e))
section
variable {X : Cx} {W : WX} {A H0 : Hp} {fr : Bool} {a b : Expr} {fa fb : F} {pos : Pos}
theorem vs_par (i j : Nat) {x y : Str} {px py pt pt2 : Pos} {kt k2} (hc : X.calm = true) (hN : X.N.Nodup) (ha : VE X W A H0 a fa) (hb : VE X W A H0 b fb) (hi : X.N[i]? = some x := by rfl) (hj : X.N[j]? = some y := by rfl) (hij : i ≠ j := by decide)
    (hx : X.env.scope.names.lookup x = some .local := by rfl) (hy : X.env.scope.names.lookup y = some .local := by rfl)
    (hw : swappedStores [.Tuple [.Name x px, .Name y py] kt pt] (.Tuple [a, b] k2 pt2) X.env = pure (some [x, y]) := by rfl)
    (hs : swapsWithSole [.Tuple [.Name x px, .Name y py] kt pt] (.Tuple [a, b] k2 pt2) pos.line X.env = pure false := by rfl)
    (h1 : starEach [a, b] X.env = (false, eval a X.env) :: starEach [b] X.env := by rfl) (h2 : starEach [b] X.env = (false, eval b X.env) :: starEach [] X.env := by rfl) :
    VS X W A H0 fr (.Assign [.Tuple [.Name x px, .Name y py] kt pt] (.Tuple [a, b] k2 pt2) pos) (gPar i j fa fb) :=
  ps_imp (ps_par hc hN hi hj hij hx hy (pa_cons ha (pa_cons hb pa_nil h2) h1) hw hs) fun Z σ H ⟨env, I, r, q⟩ => ⟨env, I, r, by
    have q0 : PostS X.K W A H0 fr I Z (SR.of env (fa env) fun d => .of env (fb env) fun e => .nx ((env.set i (.im d)).set j (.im e))) := q
    refine of_run r q0 fun d v I1 H1 _ r1 g1 k1 q1 => ⟨env, I1, r1, of_run r1 q1 fun e u I2 H2 _ r2 g2 k2 q2 => ⟨v, u, rfl, ?_⟩⟩
    exact q2 _ I2 H2 ((r2.set_im (k1.mono g2.i)).set_im k2) (Ex.refl _)⟩
end
end BW
/-! BCore35: x.insert(i, y) and x.remove(k) as statements. -/
namespace BW
open PySem PySem.Spec PyProof.Rows L2
open Evl (Ex Ex.refl Ex.trans Ex.new ex_rd ex_l ex_t)
def gIns (i : Nat) (fa fb : F) : G := fun env => match env[i]? with
  | some (.mu l) => .of env (fa env) fun
    | .int n => .of env (fb env) fun d => if 0 ≤ n ∧ n < 2 ^ 62 ∧ l.length < sizeLine then .nx (env.set i (.mu (l.take n.toNat ++ [d] ++ l.drop n.toNat))) else .no
    | _ => .no
  | _ => .no
section
variable {X : Cx} {W : WX} {A H0 : Hp} {fr : Bool} {a b : Expr} {fa fb : F} {pos : Pos}
theorem vs_ins (i : Nat) {x : Str} {p apos : Pos} (ha : VE X W A H0 a fa) (hb : VE X W A H0 b fb)
    (hN : X.N[i]? = some x := by rfl) (hv : Vis X.env.scope x := by first | exact Or.inl rfl | exact Or.inr (Or.inl rfl) | exact Or.inr (Or.inr rfl)) (hd : (x == ("__debug__" : Str)) = false := by decide) (hcd : (x == ("__classdict__" : Str)) = false := by decide)
    (hs1 : starEach (a :: [b]) X.env = (false, eval a X.env) :: starEach [b] X.env := by rfl) (hs2 : starEach (b :: []) X.env = (false, eval b X.env) :: starEach [] X.env := by rfl)
    (hbase : attributeBase (.Name x p) "insert" X.env (eval (.Name x p) X.env) = eval (.Name x p) X.env := by rfl)
    {cpos : Pos} (hfew : ((backTo cpos (starEach (a :: [b]) X.env)).all (fun x => !x.1) && (backToKw cpos (keywordEach [] X.env)).all (fun x => x.1.isSome) && decide ((a :: [b]).length + ([] : List Keyword).length + (if ([] : List Keyword).isEmpty then 0 else 1) < 30)) = true := by rfl)
    (hline : (apos.endLine == cpos.line) = true := by rfl) (hplain : (backTo cpos (starEach [b] X.env)).any (·.1) = false := by rfl)
    (hs : swapsWith (.Call (.Attribute (.Name x p) "insert" apos) [a, b] [] cpos) none pos.line X.env = pure false := by rfl) :
    VS X W A H0 fr (.Expr (.Call (.Attribute (.Name x p) "insert" apos) [a, b] [] cpos) pos) (gIns i fa fb) :=
  ps_imp (ps_expr (pe_bm PySem.F.plainAttrs_list PySem.F.slot_list_insert PySem.F.type_list_insert mt_insert (pe_var hN hv hd hcd) (pa_cons ha (pa_cons hb pa_nil hs2) hs1) hbase hfew hline hs1 hplain) hs) fun Z σ H ⟨env, I, rl, q⟩ => by
    unfold gIns at q
    cases he : env[i]? with
    | none => rw [he] at q; exact q.elim
    | some sl =>
      rw [he] at q
      cases sl with
      | mu l =>
        obtain ⟨ad, vs, h1, h2, h3, h4, h5⟩ := rl.mu i l he
        have q0 : PostS X.K W A H0 fr I Z (SR.of env (fa env) fun
          | .int n => .of env (fb env) fun d => if 0 ≤ n ∧ n < 2 ^ 62 ∧ l.length < sizeLine then .nx (env.set i (.mu (l.take n.toNat ++ [d] ++ l.drop n.toNat))) else .no
          | _ => .no) := q
        refine ⟨.ref ad, h1, ty_lst h2, env, I, rl, of_run rl q0 fun dn v I1 H1 _ r1 g1 k1 q1 => ?_⟩
        cases dn <;> try (exact q1.elim)
        rename_i n hq
        refine ⟨env, I1, r1, of_run r1 q1 fun d u I2 H2 _ r2 g2 k2 q2 => ?_⟩
        have q3 : PostS X.K W A H0 fr I2 Z (if 0 ≤ n ∧ n < 2 ^ 62 ∧ l.length < sizeLine then .nx (env.set i (.mu (l.take n.toNat ++ [d] ++ l.drop n.toNat))) else .no) := q2
        by_cases hz : 0 ≤ n ∧ n < 2 ^ 62 ∧ l.length < sizeLine
        · rw [if_pos hz] at q3
          have h5' := h5.mono (g1.trans g2).i
          refine ⟨ad, vs, n, u, rfl, by rw [k1.int_inv], (g1.trans g2).h _ _ h2, by rw [h5.length]; exact hz.2.2, hz.1, by omega, ?_⟩
          exact q3 σ I2 _ (r2.chg he h1 (((h5'.take _).append (.cons k2 .nil)).append (h5'.drop _))) (Ex.refl _)
        · rw [if_neg hz] at q3; exact q3.elim
      | _ => exact q.elim
end
end BW
/-! BCore36: a name's own list lent to a list comprehension that is stored. -/
namespace BW
open PySem PySem.Spec PyProof.Rows L2
open Evl (Ex Ex.refl Ex.trans Ex.new ex_rd ex_l ex_t)
section
variable {X : Cx} {W : WX} {A H0 : Hp} {fr : Bool} {a b c e tg : Expr} {fa fb fc fi f : F} {pos : Pos} {st : Stmt} {rest : List Stmt} {g g1 g2 : G}
end
end BW
/-! BCore37: max and min of three whole numbers. -/
namespace BW
open PySem PySem.Spec PyProof.Rows L2
open Evl (Ex Ex.refl Ex.trans)
def min3D : List D → R D
  | [.int i, .int j, .int k] => .ok (.int (min (min i j) k))
  | _ => .no
section
variable {K : PySem.W.Frag}
theorem three_ofD {α : Type} {l : List α} (h : 3 = l.length) : ∃ x y z, l = [x, y, z] := match l, h with
  | [x, y, z], _ => ⟨x, y, z, rfl⟩
theorem gc3 {r : List V → Hp → VK → Prop} {g : List D → R D} (h : ∀ (v u w : V) (x y z d : D) (H : Hp) (Q : VK), Rd K H v x → Rd K H u y → Rd K H w z → g [x, y, z] = .ok d → ∃ s, d.sc = some s ∧ (Q s H → r [v, u, w] H Q)) : GC K r [false, false, false] g := by
  intro vs ds d I H Q ih ha e q
  obtain ⟨x, y, z, rfl⟩ := three_ofD (argsLen ha).symm
  obtain ⟨v, u, w, rfl, hv, hu, hw⟩ : ∃ v u w, vs = [v, u, w] ∧ Rd K H v x ∧ Rd K H u y ∧ Rd K H w z := by
    cases ha with
    | lo a1 a2 =>
      cases a2 with
      | lo a3 a4 =>
        cases a4 with
        | lo a5 a6 =>
          cases a6
          exact ⟨_, _, _, rfl, a1, a3, a5⟩
  obtain ⟨s, e1, k⟩ := h v u w x y z d H Q hv hu hw e
  exact k (q s I H (Grow.refl ih) (.of_sc e1))
theorem gc_min3 : GC K (rNuC3 nuMin3) [false, false, false] min3D := gc3 fun v u w x y z d H Q hv hu hw e => by
  cases x <;> try (cases e; done)
  cases y <;> try (cases e; done)
  cases z <;> try (cases e; done)
  rename_i i j k
  rw [hv.int_inv, hu.int_inv, hw.int_inv, ← ok_inj e]
  refine ⟨_, rfl, fun q => ⟨_, _, _, .int (min (min i j) k), rfl, ?_, q⟩⟩
  have h2 : ∀ a b : Int, nuMin2 (.int a) (.int b) = some (.int (min a b)) := fun a b => by
    show some (if decide (b < a) = true then V.int b else V.int a) = _
    by_cases h : b < a
    · rw [decide_eq_true h, if_pos rfl, Int.min_eq_right (by omega)]
    · rw [decide_eq_false h, if_neg (by decide), Int.min_eq_left (by omega)]
  show (nuMin2 (.int i) (.int j)).bind (fun m => nuMin2 m (.int k)) = _
  rw [h2]
  exact h2 _ _
theorem nea_min3 : NoErA min3D := fun ds c p => by
  unfold min3D
  repeat' split
  all_goals exact fun z => nomatch z
end
end BW
/-! BCore38: x[a:b] = [..] of a name's own list; x.index(y) of whole numbers. -/
namespace BW
open PySem PySem.Spec PyProof.Rows L2
open Evl (Ex Ex.refl Ex.trans)
section
variable {X : Cx} {W : WX} {A H0 : Hp} {fr : Bool} {a b e : Expr} {fa fb f : F} {pos : Pos}
/-! x.index(y) -/
theorem RdA.two {K : PySem.W.Frag} {I : Hp} : ∀ {vs : List V} {ds : List D}, RdA K I vs ds → ∀ {j : Nat} {v : V}, vs[j]? = some v → ∃ d, ds[j]? = some d ∧ Rd K I v d
  | _, _, .nil, j, v, h => by simp at h
  | _, _, .cons h q, 0, v, e => by
    cases (show some _ = some v from e)
    exact ⟨_, rfl, h⟩
  | _, _, .cons h q, j + 1, v, e => RdA.two q (show _ = some v from e)
end
end BW
/-! BCore39: for .. in reversed(x) of a told list. -/
namespace BW
open PySem PySem.Spec PyProof.Rows L2
open Evl (Ex Ex.refl Ex.trans Ex.new ex_rd ex_l ex_t)
section
variable {K : PySem.W.Frag} {I : Hp} {a : Addr} {vs : List V} {ds : List D}
end
section
variable {X : Cx} {W : WX} {A H0 : Hp} {e tg : Expr} {f : F} {pos : Pos}
end
end BW
/-! BCore40: a < b < c of whole numbers. -/
namespace BW
open PySem PySem.Spec PyProof.Rows L2
open Evl (Ex Ex.refl Ex.trans Ex.new ex_rd ex_l ex_t)
section
variable {X : Cx} {W : WX} {A H0 : Hp} {a b c : Expr} {fa fb fc : F} {pos : Pos} {op op' : CmpOp} {p q : Int → Int → Bool}
end
end BW
/-! BCore41: an own error whose __init__ keeps one field, raised. -/
namespace BW
open PySem PySem.Spec PyProof.Rows L2
open Evl (Ex Ex.refl Ex.trans Ex.new ex_rd ex_l ex_t)
/-- what its __init__ does: a the new error, v what it keeps -/
def spX (K : PySem.W.Frag) (c : Nat) : Sp := fun vs H Q E => ∃ (a : Addr) (v : V), vs = [.ref a, v] ∧ H a = some (exo a (CL K c) none) ∧ ∀ dx, H dx = none → dx ≠ a → Q .non (upd (upd H dx (exd dx [(xf c, v)])) a (exo a (CL K c) (some dx)))
structure NfC (P : Program) (w : World) (K : PySem.W.Frag) (mg : Str → Option Value) (base : Heap) (c : Nat) : Prop where
  ex : ∃ (fI : Addr) (fd : FuncData) (ps : List Str), OexC K (CL K c) ∧ PySem.W.findIn K (.ref (CL K c)) "__init__" = some (some (.ref fI)) ∧ PySem.W.typeIn K (.ref fI) = some (.type "function") ∧ mg (cn c) = some (.ref (CL K c)) ∧ FnOk P w K mg base (L2.CX P w) 1 fI fd ps (spX K c) ∧ Binds K fd ps []
section
variable {P : Program} {w : World} {K : PySem.W.Frag} {mg : Str → Option Value} {base : Heap}
end
section
variable {X : Cx} {W : WX} {A H0 : Hp} {fr : Bool} {e : Expr} {f : F} {pos : Pos}
end
end BW
/-! BCore42: an instance of an own class `is` a bool. -/
namespace BW
open PySem PySem.Spec PyProof.Rows L2
open Evl (Ex Ex.refl Ex.trans Ex.new ex_rd ex_l ex_t)
section
variable {X : Cx} {W : WX} {A H0 : Hp} {a b c e : Expr} {fa fb fc f : F} {pos : Pos}
end
end BW
/-! BCore43: a name that gets a new list, or None. -/
namespace BW
open PySem PySem.Spec PyProof.Rows L2
open Evl (Ex Ex.refl Ex.trans Ex.new ex_rd ex_l ex_t)
section
variable {X : Cx} {W : WX} {A H0 : Hp} {e : Expr} {f : F} {pos : Pos} {fr : Bool}
end
end BW
/-! BCore44: what a dict holds at a number, or another value. -/
namespace BW
open PySem PySem.Spec PyProof.Rows L2
open Evl (Ex Ex.refl Ex.trans Ex.new ex_rd ex_l ex_t)
section
variable {X : Cx} {W : WX} {A H0 : Hp} {o ie e : Expr} {fa fk fd : F} {apos cpos : Pos}
end
end BW
/-! BCore45: the field of a kept error, read. -/
namespace BW
open PySem PySem.Spec PyProof.Rows L2
open Evl (Ex Ex.refl Ex.trans Ex.new ex_rd ex_l ex_t)
section
variable {X : Cx} {W : WX} {A H0 : Hp} {e : Expr} {f : F} {pos : Pos}
end
end BW
/-! BCore46: isinstance of a kept error that has a field. -/
namespace PySem.W
open PySem PySem.Spec PySem.Calls PyProof.Rows
section
variable {prog : Program} {w : World} {A : Around} {E : Value → Shared → Prop} {s : Shared} {K : Frag} {x D : Addr} {ox : Obj} {od : Option Obj}
theorem bw_findD {C : Addr} {name : Str} {a g : Value} (h1 : (clsIn K C).isSome = true) (h2 : findIn K (.ref C) name = some (some a)) (h3 : specialIn K a "__get__" = some (some g)) (h4 : takesIn K a = some true) : findObj K C od name = some (.bind g a) := by
  obtain ⟨cd, hcd⟩ := Option.isSome_iff_exists.mp h1
  unfold findObj
  rw [hcd, Option.bind_some, h2, Option.bind_some]
  simp [h3, h4]
/-- its class, asked for -/
theorem bw_classD {Q : Option Value → Shared → Prop} (C : L2.ExcC K D) (X : K.In s.heap) (I : InstAt s.heap x ox D od) (h : Q (some (.ref D)) { s with toks := s.toks + 1 }) :
    wpAny (model prog w) A (getAttr? (.ref x) "__class__") Q E s := by
  have hf : findObj K D od "__class__" = some (.bind (.builtin "getset_descriptor.__get__") (.builtin "object.__class__")) :=
    bw_findD (by obtain ⟨cd, hc, _⟩ := any_some C.hd
                 rw [hc]; rfl) C.ha C.hn C.ht
  obtain ⟨hp, g, d, t, os⟩ := s
  have K0 := I.type (M := model prog w)
  have K1 := looks_findIn (M := model prog w) X C.hg
  have K2 := looks_findIn (M := model prog w) X C.hk
  have K3 := looks_find (M := model prog w) X I hf
  have K4 : Looks (model prog w) hp (isInstance (.ref x) (.type "BaseException")) true := K0.andThen
    (looks_subIn X C.hs)
  have n0 : (false && onTheHeap (Value.builtin "BaseException.__getattribute__")) = false := rfl
  have n1 : (onTheHeap (Value.ref D) && Value.builtin "BaseException.__getattribute__" == Value.builtin "object.__getattribute__") = false := by
    have n2 : (Value.builtin "BaseException.__getattribute__" == Value.builtin "object.__getattribute__") = false := by
      decide +kernel
    rw [n2]; rfl
  unfold getAttr?
  unfold getAttrBy?
  unfold getAttrBy
  refine wpAny_bind (wpAny_mkText (wpAny_bind (wpAny_attempt ?_)))
  refine wpAny_holding (wpAny_bind (K0.at (wpAny_bind (K1.at ?_))))
  show wpAny _ _ (if (onTheHeap (Value.ref D) && Value.builtin "BaseException.__getattribute__" == Value.builtin "object.__getattribute__") = true then _ else _)
    _ _ _
  rw [n1, if_neg Bool.false_ne_true]
  unfold getAttrByItsOwn
  unfold hookBefore
  refine wpAny_bind ?_
  rw [if_pos (show onTheHeap (Value.ref D) = true from rfl)]
  refine K2.at (wpAny_bind (wpAny_attempt (wpAny_holding ?_)))
  unfold callGetattribute
  rw [n0, if_neg Bool.false_ne_true]
  unfold boundAndCalled
  rw [PySem.F.excAttr_ValueError.ga.bind (.ref x)]
  refine wpAny_bind (wpAny_pure ?_)
  show wpAny _ _ (call (.builtin "BaseException.__getattribute__")
    [.ref x, .str "__class__" t]) _ _ _
  refine wpAny_call (codeAny_call_builtin PySem.F.excAttr_ValueError.ga.plain
    PySem.F.entry_bexc_ga ?_)
  refine @check_slot (model prog w) _ _ ⟨hp, g, d, t + 1, os⟩ "BaseException.__getattribute__" "BaseException" "__getattribute__"
    (.ref x) [.str "__class__" t] [] _ (by decide +kernel) (by decide +kernel) K4
    (PySem.F.args_bexc_ga (.ref x) (.str "__class__" t)) ?_
  unfold Builtin.«object.__getattribute__»
  refine wpAny_bind (wpAny_of_eq (a := ((Value.ref x : Value), [Value.str "__class__" t]))
    (by first | rfl | (simp only [slotArgs]; rfl)) ?_)
  refine wpAny_bind (wpAny_pure (wpAny_bind (K0.at (wpAny_bind (K3.at ?_)))))
  show wpAny _ _ (holding [Value.builtin "object.__class__"]
    (call (.builtin "getset_descriptor.__get__") [.builtin "object.__class__", .ref x, .ref D]) >>= ret) _ _ _
  refine wpAny_bind (wpAny_holding (wpAny_call
    (class_get (s := ⟨hp, g, d, t + 1, os⟩) (ox := ox) (od := od) X I C.hm ?_)))
  refine wpAny_pure ?_
  show wpAny _ _ (handedOut (.ref D)) _ _ _
  rw [handedOut_of (v := .ref D) rfl]
  first
    | exact wpAny_pure (wpAny_pure h)
    | exact wpAny_pure h
    | exact wpAny_pure (wpAny_bind (wpAny_pure (wpAny_pure h)))
theorem bw_kitD (C : L2.ExcC K D) : KitX K (.ref x) (.ref D) (fun h => InstAt h x ox D od) where
  ty := fun _ _ _ I => I.type
  it := fun _ _ X _ => by
    obtain ⟨cd, hcd, _⟩ := any_some C.hd
    unfold clsIn at hcd
    split at hcd
    · next ho =>
      intro A' Q' E' s' k q
      unfold isType loadHead
      exact wpAny_bind (wpAny_loadPart (k _ _ (X _ _ ho)) (wpAny_pure q))
    · cases hcd
  ne := fun h tp dd its n sl X htp => by
    obtain ⟨cd, hcd, _⟩ := any_some C.hd
    refine Bool.eq_false_iff.mpr fun q => ?_
    cases (Value.ref.inj (beq_iff_eq.mp q) : D = tp)
    unfold clsIn at hcd
    split at hcd
    · next ho =>
      have z := (X _ _ ho).symm.trans htp
      cases z
    · cases hcd
  ca := fun X I k => bw_classD C X I k
end
end PySem.W
namespace BW
open PySem PySem.Spec PyProof.Rows L2
open Evl (Ex Ex.refl Ex.trans Ex.new ex_rd ex_l ex_t)
/-- isinstance(e, c), e an error with a field that the heap tells of -/
def rIsP (K : PySem.W.Frag) : List V → Hp → VK → Prop := fun xs H Q => ∃ (a C dd : Addr) (fs : List (Str × V)) (c : V) (u : Value) (b : Bool), xs = [.ref a, c] ∧ H a = some (excO C (some dd) a) ∧ H dd = some (.xd fs) ∧ ExcC K C ∧ ClsV c u ∧ PySem.W.kitOne K (.ref C) u = some b ∧ Q (.bl b) H
theorem call_isP {X : Cx} : CallR X (.builtin "isinstance") (rIsP X.K) := by
  intro pins s σ H xs us Q I r h
  obtain ⟨a, C, dd, fs, c, u, b, rfl, ha, hx0, ex, hc, hk, q⟩ := h
  match us, r with
  | [ua, uc], .cons ra (.cons rc .nil) =>
    have ea : ua = .ref a := ra
    have ec : uc = u := hc.eq rc
    subst ea ec
    have o : ObjOk X.prog X.w H s.heap a (excO C (some dd) a) := I.hok a _ ha
    obtain ⟨⟨oe, hget, hz, vs, hv⟩, _⟩ := o
    have hx : ObjOk X.prog X.w H s.heap dd (.xd fs) := I.hok dd _ hx0
    obtain ⟨mA, hns, _⟩ := hx
    obtain ⟨od, ho, _⟩ := lookIn_ns hns
    have inst : PySem.W.InstAt s.heap a oe C (some od) := ⟨hget, hz.1, by unfold PySem.W.notCls; rw [hv] <;> rfl, by rw [hz.2]; exact ho⟩
    exact PySem.W.kia_one (PySem.W.bw_kitD ex) I.kIn inst hk (by intro z; cases z) fun tk => ⟨.bl b, H, I.kept (t' := tk) fun _ _ z => z, rfl, q⟩
end BW
namespace BW
open PySem PySem.Spec PyProof.Rows L2
open Evl (Ex Ex.refl Ex.trans Ex.new ex_rd ex_l ex_t)
/-- isinstance by a table, of an object or of an error with or without a field -/
def isoXD (tb : List (Nat × Bool)) (d : D) : R D := match d with
  | .exc c [_] => if 1 < c then (match tb.lookup c with
    | some b => .ok (.bl b)
    | none => .no) else .no
  | d => isoD tb d
theorem isoXD_or (tb : List (Nat × Bool)) (d : D) : (∃ c x, d = .exc c [x]) ∨ isoXD tb d = isoD tb d := by
  cases d with
  | exc c l =>
    cases l with
    | nil => exact .inr rfl
    | cons x l =>
      cases l with
      | nil => exact .inl ⟨c, x, rfl⟩
      | cons _ _ => exact .inr rfl
  | _ => exact .inr rfl
section
variable {X : Cx} {W : WX} {A H0 : Hp} {a : Expr} {fa : F} {pos : Pos}
theorem isoX_run {K : PySem.W.Frag} {σ : L2.St} {I H : Hp} {u : Value} {tb : List (Nat × Bool)} (T : IsoT K u tb) {cv : V} (hcv : ClsV cv u) {r : R D} {Q : VK} (q0 : PostE K W σ I H (r.bind (isoXD tb)) Q) :
    PostE K W σ I H r fun v H1 => (rIsi K [v, cv] H1 Q ∨ rIsX K [v, cv] H1 Q) ∨ rIsP K [v, cv] H1 Q := by
  cases r with
  | er c p => exact q0
  | no => exact q0.elim
  | ok d =>
    rcases isoXD_or tb d with ⟨c, x, rfl⟩ | hd
    · intro v I1 H1 g1 k
      have q2 : PostE K W σ I H (if 1 < c then (match tb.lookup c with | some b => R.ok (.bl b) | none => .no) else .no) Q := q0
      by_cases hc : 1 < c
      · rw [if_pos hc] at q2
        cases ht : tb.lookup c with
        | none => rw [ht] at q2; exact q2.elim
        | some b =>
          rw [ht] at q2
          obtain ⟨hk, _, h2⟩ := T c b ht
          cases k with
          | @exc1 p c' dx w d' h1 h3 h4 => exact .inr ⟨p, CL K c, dx, [(xf c, w)], cv, u, b, rfl, g1.ih _ _ h1, g1.ih _ _ h3, h2 hc, hcv, hk, q2 _ I1 H1 g1 .bl⟩
      · rw [if_neg hc] at q2; exact q2.elim
    · have q1 : PostE K W σ I H ((R.ok d).bind (isoD tb)) Q := by
        show PostE K W σ I H (isoD tb d) Q
        rw [← hd]; exact q0
      have := iso_run T hcv q1
      exact fun v I1 H1 g1 k => .inl (this v I1 H1 g1 k)
theorem ve_isoX (y : Str) {Cy : Addr} {tb : List (Nat × Bool)} {p q : Pos} (T : IsoT X.K (.ref Cy) tb) (hm : X.mg "isinstance" = none) (hy : X.mg y = some (.ref Cy)) (ha : VE X W A H0 a fa) (hg : Gl X "isinstance" := by rfl) (hg2 : Gl X y := by rfl) (hdT : (y == ("__debug__" : Str)) = false := by decide)
    (hs : starEach (a :: [.Name y q]) X.env = (false, eval a X.env) :: starEach [.Name y q] X.env := by rfl) (hs2 : starEach (.Name y q :: []) X.env = (false, eval (.Name y q) X.env) :: starEach [] X.env := by rfl) (hpl : (backTo pos (starEach [.Name y q] X.env)).any (·.1) = false := by rfl) :
    VE X W A H0 (.Call (.Name "isinstance" p) [a, .Name y q] [] pos) (f1 (isoXD tb) fa) :=
  pe_imp (pe_callB (CallR.or (CallR.or call_isi call_isX) call_isP) hg hm (by decide +kernel) (pa_cons ha (pa_cons (pe_glob (v := .ref Cy) hg2 hy rfl hdT) pa_nil hs2) hs) (by decide) (by decide) hs hpl) fun σ H Q ⟨env, I, rl, q⟩ => ⟨env, I, rl, isoX_run T (.own Cy) q⟩
end
end BW
/-! BCore47: enumerate of a list or a tuple, walked. -/
namespace BW
open PySem PySem.Spec PyProof.Rows L2
open Evl (Ex Ex.refl Ex.trans Ex.new ex_rd ex_l ex_t)
section
variable {X : Cx} {W : WX} {A H0 : Hp} {a : Expr} {fa : F} {pos : Pos}
end
end BW
/-! BCore48: when the field of a kept error may be read. -/
namespace BW
open PySem PySem.Spec PyProof.Rows L2
open Evl (Ex Ex.refl Ex.trans Ex.new ex_rd ex_l ex_t)
section
variable {X : Cx} {W : WX} {A H0 : Hp} {a : Expr} {fa : F} {pos : Pos}
end
end BW
/-! BCore49: isinstance of None, or of a kept error. -/
namespace BW
open PySem PySem.Spec PyProof.Rows L2
open Evl (Ex Ex.refl Ex.trans Ex.new ex_rd ex_l ex_t)
def isoYD (tb : List (Nat × Bool)) (d : D) : R D := match d with
  | .non => .ok (.bl false)
  | d => isoXD tb d
theorem isoYD_or (tb : List (Nat × Bool)) (d : D) : d = .non ∨ isoYD tb d = isoXD tb d := by
  cases d with
  | non => exact .inl rfl
  | _ => exact .inr rfl
theorem isoY_run {W : WX} {K : PySem.W.Frag} {σ : L2.St} {I H : Hp} {u : Value} {tb : List (Nat × Bool)} (T : IsoT K u tb) (hN : PySem.W.kitOne K (.type "NoneType") u = some false) {cv : V} (hcv : ClsV cv u) {r : R D} {Q : VK} (q0 : PostE K W σ I H (r.bind (isoYD tb)) Q) :
    PostE K W σ I H r fun v H1 => (rIsi K [v, cv] H1 Q ∨ rIsX K [v, cv] H1 Q) ∨ rIsP K [v, cv] H1 Q := by
  cases r with
  | er c p => exact q0
  | no => exact q0.elim
  | ok d =>
    rcases isoYD_or tb d with rfl | hd
    · intro v I1 H1 g1 k
      have q2 : PostE K W σ I H (R.ok (.bl false)) Q := q0
      cases k
      exact .inl (.inl ⟨.non, cv, .type "NoneType", u, false, rfl, hcv, .base .non, hN, q2 _ I1 H1 g1 .bl⟩)
    · have q1 : PostE K W σ I H ((R.ok d).bind (isoXD tb)) Q := by
        show PostE K W σ I H (isoXD tb d) Q
        rw [← hd]; exact q0
      exact isoX_run T hcv q1
section
variable {X : Cx} {W : WX} {A H0 : Hp} {a : Expr} {fa : F} {pos : Pos}
theorem ve_isoY (y : Str) {Cy : Addr} {tb : List (Nat × Bool)} {p q : Pos} (T : IsoT X.K (.ref Cy) tb) (hN : PySem.W.kitOne X.K (.type "NoneType") (.ref Cy) = some false) (hm : X.mg "isinstance" = none) (hy : X.mg y = some (.ref Cy)) (ha : VE X W A H0 a fa) (hg : Gl X "isinstance" := by rfl) (hg2 : Gl X y := by rfl) (hdT : (y == ("__debug__" : Str)) = false := by decide)
    (hs : starEach (a :: [.Name y q]) X.env = (false, eval a X.env) :: starEach [.Name y q] X.env := by rfl) (hs2 : starEach (.Name y q :: []) X.env = (false, eval (.Name y q) X.env) :: starEach [] X.env := by rfl) (hpl : (backTo pos (starEach [.Name y q] X.env)).any (·.1) = false := by rfl) :
    VE X W A H0 (.Call (.Name "isinstance" p) [a, .Name y q] [] pos) (f1 (isoYD tb) fa) :=
  pe_imp (pe_callB (CallR.or (CallR.or call_isi call_isX) call_isP) hg hm (by decide +kernel) (pa_cons ha (pa_cons (pe_glob (v := .ref Cy) hg2 hy rfl hdT) pa_nil hs2) hs) (by decide) (by decide) hs hpl) fun σ H Q ⟨env, I, rl, q⟩ => ⟨env, I, rl, isoY_run T hN (.own Cy) q⟩
theorem ve_isoYT (y : String) {tb : List (Nat × Bool)} {p q : Pos} (T : IsoT X.K (.type y) tb) (hN : PySem.W.kitOne X.K (.type "NoneType") (.type y) = some false) (hm : X.mg "isinstance" = none) (hy : X.mg (Str.ofString y) = none) (hb : bootBuiltins (Str.ofString y) = some (.type y)) (ha : VE X W A H0 a fa) (hnT : Str.ofString y ≠ "__name__") (hg : Gl X "isinstance" := by rfl) (hg2 : Gl X (Str.ofString y) := by rfl) (hdT : (Str.ofString y == ("__debug__" : Str)) = false := by decide)
    (hs : starEach (a :: [.Name (Str.ofString y) q]) X.env = (false, eval a X.env) :: starEach [.Name (Str.ofString y) q] X.env := by rfl) (hs2 : starEach (.Name (Str.ofString y) q :: []) X.env = (false, eval (.Name (Str.ofString y) q) X.env) :: starEach [] X.env := by rfl) (hpl : (backTo pos (starEach [.Name (Str.ofString y) q] X.env)).any (·.1) = false := by rfl) :
    VE X W A H0 (.Call (.Name "isinstance" p) [a, .Name (Str.ofString y) q] [] pos) (f1 (isoYD tb) fa) :=
  pe_imp (pe_callB (CallR.or (CallR.or call_isi call_isX) call_isP) hg hm (by decide +kernel) (pa_cons ha (pa_cons (pe_bltn (v := .ty y) hg2 hy hb rfl hnT hdT) pa_nil hs2) hs) (by decide) (by decide) hs hpl) fun σ H Q ⟨env, I, rl, q⟩ => ⟨env, I, rl, isoY_run T hN (.ty y) q⟩
end
end BW
/-! BCore50: defs that hand back a pair of a scalar and a new list. -/
namespace BW
open PySem PySem.Spec PyProof.Rows L2
open Evl (Ex Ex.refl Ex.trans Ex.new ex_rd ex_l ex_t)
def PostQ (K : PySem.W.Frag) (W : WX) (σ : L2.St) (I H : Hp) (r : R D) (Q : VK) : Prop := match r with
  | .ok (.tup [x, .lst ds]) => (match x.sc with
    | some w => ∀ t ob p vs I' H', Grow I H I' H' → ob.dict = none → H t = none → I' t = none → H' t = some (.frz ob (.tup [w, .ref p])) → H p = none → I' p = none → H' p = some (.lst vs) → RdA K I' vs ds → Q (.ref t) H'
    | none => False)
  | .er c p => ∀ cls od I' H', Grow I H I' H' → ErrIs K c p cls od I' → W cls od σ H'
  | _ => False
/-- is it such a pair -/
theorem D.pr_or (d : D) : (∃ x w l, d = .tup [x, .lst l] ∧ x.sc = some w) ∨ (∀ K W σ I H Q, ¬ PostQ K W σ I H (.ok d) Q) := by
  by_cases h : ∃ x l, d = .tup [x, .lst l]
  · obtain ⟨x, l, rfl⟩ := h
    cases hs : x.sc with
    | some w => exact .inl ⟨x, w, l, rfl, hs⟩
    | none =>
      refine .inr fun K W σ I H Q z => ?_
      have z1 : (match x.sc with
        | some w => ∀ t ob p vs I' H', Grow I H I' H' → ob.dict = none → H t = none → I' t = none → H' t = some (.frz ob (.tup [w, .ref p])) → H p = none → I' p = none → H' p = some (.lst vs) → RdA K I' vs l → Q (.ref t) H'
        | none => False) := z
      rw [hs] at z1
      exact z1
  · refine .inr fun K W σ I H Q z => ?_
    unfold PostQ at z
    split at z
    · rename_i x ds e
      have e' : d = .tup [x, .lst ds] := by injection e
      exact h ⟨_, _, e'⟩
    · rename_i e
      cases e
    · exact z
theorem PostQ.app {K : PySem.W.Frag} {W : WX} {σ : L2.St} {I H : Hp} {x : D} {w : V} {l : List D} {Q : VK} (hs : x.sc = some w) (h : PostQ K W σ I H (.ok (.tup [x, .lst l])) Q) :
    ∀ t ob p vs I' H', Grow I H I' H' → ob.dict = none → H t = none → I' t = none → H' t = some (.frz ob (.tup [w, .ref p])) → H p = none → I' p = none → H' p = some (.lst vs) → RdA K I' vs l → Q (.ref t) H' := by
  have z1 : (match x.sc with
    | some w => ∀ t ob p vs I' H', Grow I H I' H' → ob.dict = none → H t = none → I' t = none → H' t = some (.frz ob (.tup [w, .ref p])) → H p = none → I' p = none → H' p = some (.lst vs) → RdA K I' vs l → Q (.ref t) H'
    | none => False) := h
  rw [hs] at z1
  exact z1
theorem PostQ.mk {K : PySem.W.Frag} {W : WX} {σ : L2.St} {I H : Hp} {x : D} {w : V} {l : List D} {Q : VK} (hs : x.sc = some w) (h : ∀ t ob p vs I' H', Grow I H I' H' → ob.dict = none → H t = none → I' t = none → H' t = some (.frz ob (.tup [w, .ref p])) → H p = none → I' p = none → H' p = some (.lst vs) → RdA K I' vs l → Q (.ref t) H') : PostQ K W σ I H (.ok (.tup [x, .lst l])) Q := by
  show (match x.sc with
    | some w => ∀ t ob p vs I' H', Grow I H I' H' → ob.dict = none → H t = none → I' t = none → H' t = some (.frz ob (.tup [w, .ref p])) → H p = none → I' p = none → H' p = some (.lst vs) → RdA K I' vs l → Q (.ref t) H'
    | none => False)
  rw [hs]
  exact h
section
variable {X : Cx} {W : WX} {A H0 : Hp} {c e : Expr} {f fc fe : F} {pos pos' : Pos}
end
/-! ### defs of this kind -/
def spQ (K : PySem.W.Frag) (fl : List Bool) (m : List D → R D) : Sp := fun vs H Q E => ∃ ds I, Ex I H ∧ ArgsOk K I H fl vs ds ∧ PostQ K (fun cls od _ H' => E cls od H') [] I H (m ds) Q
section
variable {P : Program} {w : World} {K : PySem.W.Frag} {mg : Str → Option Value} {base : Heap}
structure CalQ (P : Program) (w : World) (K : PySem.W.Frag) (mg : Str → Option Value) (base : Heap) (x : Str) (k : Nat) (fl : List Bool) (m : List D → R D) : Prop where
  ex : ∃ (f : Addr) (fd : FuncData) (ps : List Str), FnOk P w K mg base (L2.CX P w) k f fd ps (spQ K fl m) ∧ mg x = some (.ref f) ∧ PySem.W.keepIn K (.ref f) = true ∧ Binds K fd ps []
end
section
variable {X : Cx} {W : WX} {A H0 : Hp} {e : Expr} {pos : Pos} {x : Str} {j k : Nat} {fl : List Bool} {m : List D → R D} {es : List Expr} {fs : FA} {p : Pos}
end
end BW
/-! BCore51: a new list, changed and dropped. -/
namespace BW
open PySem PySem.Spec PyProof.Rows L2
open Evl (Ex Ex.refl Ex.trans Ex.new ex_rd ex_l ex_t)
section
variable {X : Cx} {W : WX} {A H0 : Hp} {fr : Bool} {o e : Expr} {fo f : F} {pos : Pos}
end
end BW
/-! BCore52: names that own all within. -/
namespace BW
open PySem PySem.Spec PyProof.Rows L2
open Evl (Ex Ex.refl Ex.trans Ex.new ex_rd ex_l ex_t)
/-! ### facts on parts of the heap -/
theorem Own.grow {env : En} {σ : L2.St} {I H0 H J I' H' : Hp} (w : Own env σ I H0 H J) (g : Grow I H I' H') : Own env σ I' H0 H' J := ⟨w.h.trans g.h, (fun a o e => by
    cases q : I' a with
    | none => rfl
    | some u =>
      rcases g.new a u q with z | z
      · rw [w.i a o e] at z; cases z
      · rw [w.h a o e] at z; cases z), w.z, w.l, w.mu, w.md⟩
theorem nol_ex {I : Hp} : Ex (nol I) I := fun a o h => (nol_some h).1
theorem nol_or {I : Hp} : ∀ a o, I a = some o → nol I a = some o ∨ ∃ vs, o = .lst vs := fun a o h => by
  by_cases c : ∃ vs, o = .lst vs
  · exact .inr c
  · exact .inl (nol_mk h fun vs e => c ⟨vs, e⟩)
theorem back_nol {I : Hp} : back (nol I) I I = nol I := funext fun a => by
  unfold back
  cases h : nol I a with
  | some o => rfl
  | none => cases q : I a <;> rfl
theorem Rd.nol {K : PySem.W.Frag} {I : Hp} {v : V} {d : D} (h : Rd K I v d) (e : lf d = true) : Rd K (nol I) v d := by
  have z := Rd.back (I := BW.nol I) (J := I) (J' := I) nol_ex (Ex.refl _) nol_or h e
  rwa [back_nol] at z
theorem ArgsOk.nol {K : PySem.W.Frag} {I H : Hp} : ∀ {fl : List Bool} {vs : List V} {ds : List D}, ArgsOk K I H fl vs ds → lfA ds = true → ArgsOk K (nol I) H fl vs ds
  | _, _, _, .nil, _ => .nil
  | _, _, _, .st (d := d) (ds := ds) h q, e => .st (h.nol (Bool.and_eq_true_iff.mp (show (lf d && lfA ds) = true from e)).1) (ArgsOk.nol q (Bool.and_eq_true_iff.mp (show (lf d && lfA ds) = true from e)).2)
  | _, _, _, .lo (d := d) (ds := ds) h q, e => .lo h (ArgsOk.nol q (Bool.and_eq_true_iff.mp (show (lf d && lfA ds) = true from e)).2)
/-! ### a name set -/
section
variable {K : PySem.W.Frag} {A H0 : Hp} {env : En} {σ : L2.St} {I H I' H' : Hp}
theorem Rel.put_ow (r : Rel K A H0 env σ I H) {i : Nat} {v : V} {d : Ow} {J : Hp} (w : Own env σ I H0 H J) (h : RdW K I J v d) (hs : i < env.length → σ[i]? = some (some v)) : Rel K A H0 (env.set i (.ow d)) σ I H := by
  have tr : ∀ (j : Nat) (s : Sl), (∀ o, s ≠ .ow o) → (env.set i (.ow d))[j]? = some s → env[j]? = some s := fun j s hs e => by
    rcases set_get e with ⟨_, z⟩ | ⟨hij, z⟩
    · exact absurd z (hs _)
    · exact z
  refine ⟨r.g, by rw [List.length_set, r.len], fun j e he => r.im j e (tr j _ (fun _ z => nomatch z) he), fun j l he => r.mu j l (tr j _ (fun _ z => nomatch z) he), fun j e he => r.bo j e (tr j _ (fun _ z => nomatch z) he),
    fun j k l m a h1 h2 h3 h4 => r.ap j k l m a (tr j _ (fun _ z => nomatch z) h1) (tr k _ (fun _ z => nomatch z) h2) h3 h4, fun j ks l he => r.md j ks l (tr j _ (fun _ z => nomatch z) he),
    fun j k ks ls l m a h1 h2 h3 h4 => r.apd j k ks ls l m a (tr j _ (fun _ z => nomatch z) h1) (tr k _ (fun _ z => nomatch z) h2) h3 h4, fun j o e => ?_, r.dk.next (fun j o d e => ⟨tr j _ (fun _ z => nomatch z) e, rfl⟩) (Ex.refl _) fun x C dx ff e1 e2 => ⟨e1, e2⟩⟩
  have w' : ∀ {J : Hp}, Own env σ I H0 H J → Own (env.set i (.ow d)) σ I H0 H J := fun w => w.less (fun j l e => ⟨⟨l, tr j _ (fun _ z => nomatch z) e⟩, rfl⟩) (fun j ks l e => ⟨⟨ks, l, tr j _ (fun _ z => nomatch z) e⟩, rfl⟩)
  have hl : j < env.length := by
    have := (List.getElem?_eq_some_iff.mp e).1
    rwa [List.length_set] at this
  rcases set_get e with ⟨z, y⟩ | ⟨hij, z⟩
  · subst z
    cases y
    exact ⟨v, J, hs hl, w' w, h⟩
  · obtain ⟨v', J', h1, h2, h3⟩ := r.ow j o z
    exact ⟨v', J', h1, w' h2, h3⟩
theorem Rel.set_ow (r : Rel K A H0 env σ I H) (g : Grow I H I' H') {i : Nat} {v : V} {d : Ow} {J : Hp} (hj : Ex J H') (hn : ∀ a o, J a = some o → I' a = none ∧ H a = none ∧ ∃ us, o = .lst us) (h : RdW K I' J v d) : Rel K A H0 (env.set i (.ow d)) (σ.set i (some v)) I' H' := by
  have r1 := r.grow g
  have r2 : Rel K A H0 (env.set i .no) (σ.set i (some v)) I' H' := r1.less (by rw [List.length_set]) (by rw [List.length_set]) fun j s e => by
    rcases set_get e with ⟨_, z⟩ | ⟨hij, z⟩
    · exact .inl z
    · exact .inr ⟨z, List.getElem?_set_ne hij⟩
  have fr : ∀ {a : Addr} {o : HO}, H a = some o → J a = none := fun {a o} e => by
    cases q : J a with
    | none => rfl
    | some u => rw [(hn a u q).2.1] at e; cases e
  have w : Own (env.set i .no) (σ.set i (some v)) I' H0 H' J := by
    refine Own.set ⟨hj, fun a o e => (hn a o e).1, fun a o e => Evl.fresh_back r.g.h (hn a o e).2.1, fun a o e => (hn a o e).2.2, fun j l a e s => ?_, fun j ks l a e s => ?_⟩ (fun _ z => nomatch z) (fun _ _ z => nomatch z)
    · obtain ⟨b, vs, h1, h2, _⟩ := r.mu j l e
      rw [s] at h1
      cases h1
      exact fr h2
    · obtain ⟨b, vs, h1, h2, _⟩ := r.md j ks l e
      rw [s] at h1
      cases h1
      exact fr h2
  have r3 := r2.put_ow (i := i) w h (fun hl => List.getElem?_set_self (by rw [List.length_set] at hl; rw [r.len]; exact hl))
  rwa [List.set_set] at r3
end
section
variable {X : Cx} {W : WX} {A H0 : Hp} {fr : Bool} {e : Expr} {f : F} {pos : Pos}
end
section
variable {X : Cx} {W : WX} {A H0 : Hp} {e : Expr} {pos : Pos} {x : Str} {j k : Nat} {fl : List Bool} {m : List D → R D} {es : List Expr} {fs : FA} {p : Pos}
end
/-! ### lent to an expression -/
section
variable {K : PySem.W.Frag} {A H0 : Hp} {env : En} {σ : L2.St} {I H I' H' : Hp}
end
section
variable {X : Cx} {W : WX} {A H0 : Hp} {e : Expr} {f : F}
end
/-! ### changed within -/
section
variable {K : PySem.W.Frag} {A H0 : Hp} {env : En} {σ : L2.St} {I H I' H' : Hp}
theorem Own.upd {J : Hp} (w : Own env σ I H0 H J) {q : Addr} {us ws : List V} (hq : J q = some (.lst us)) : Own env σ I H0 (L2.upd H q (.lst ws)) (L2.upd J q (.lst ws)) := by
  have at' : ∀ {a : Addr}, J a = none → L2.upd J q (.lst ws) a = none := fun {a} n => by
    have na : a ≠ q := fun e => by rw [e, hq] at n; cases n
    rw [upd_ne na]; exact n
  refine ⟨fun a o e => ?_, fun a o e => ?_, fun a o e => ?_, fun a o e => ?_, fun j l a e s => at' (w.mu j l a e s), fun j ks l a e s => at' (w.md j ks l a e s)⟩
  all_goals by_cases c : a = q
  · subst c; rw [upd_same] at e ⊢; exact e
  · rw [upd_ne c] at e ⊢; exact w.h a o e
  · subst c; exact w.i _ _ hq
  · rw [upd_ne c] at e; exact w.i a o e
  · subst c; exact w.z _ _ hq
  · rw [upd_ne c] at e; exact w.z a o e
  · subst c; rw [upd_same] at e; cases e; exact ⟨_, rfl⟩
  · rw [upd_ne c] at e; exact w.l a o e
end
section
variable {K : PySem.W.Frag} {W : WX} {A H0 : Hp} {fr : Bool} {Z : Ends} {σ : L2.St} {H : Hp} {i : Nat} {k : Option Nat} {f : F}
end
end BW
/-! BCore53: rows that change a name that owns all within. -/
namespace BW
open PySem PySem.Spec PyProof.Rows L2
open Evl (Ex Ex.refl Ex.trans Ex.new ex_rd ex_l ex_t)
section
variable {X : Cx} {W : WX} {A H0 : Hp} {fr : Bool} {e : Expr} {f : F} {pos : Pos}
end
section
variable {P : Program} {w : World} {K : PySem.W.Frag} {mg : Str → Option Value} {base : Heap} {y : Str} {k : Nat} {fl : List Bool} {m : List D → R D}
end
end BW
/-! BCore54: a name that owns all within, looked through by a loop that only tests. -/
namespace BW
open PySem PySem.Spec PyProof.Rows L2
open Evl (Ex Ex.refl Ex.trans Ex.new ex_rd ex_l ex_t)
section
variable {X : Cx} {W : WX} {A H0 : Hp} {fr : Bool} {c : Expr} {fc : F} {gr : G} {pos : Pos}
end
end BW
/-! BCore55: an own pair of a scalar and a new list. -/
namespace BW
open PySem PySem.Spec PyProof.Rows L2
open Evl (Ex Ex.refl Ex.trans Ex.new ex_rd ex_l ex_t)
theorem RdA.nol {K : PySem.W.Frag} {I : Hp} {v : List V} {d : List D} (h : RdA K I v d) (e : lfA d = true) : RdA K (BW.nol I) v d := by
  have z := RdA.back (I := BW.nol I) (J := I) (J' := I) nol_ex (Ex.refl _) nol_or h e
  rwa [back_nol] at z
section
variable {X : Cx} {W : WX} {A H0 : Hp} {fr : Bool} {e : Expr} {f : F} {pos : Pos}
end
end BW
/-! BCore56: an own pair lent to a new list; a list that is its item changed. -/
namespace BW
open PySem PySem.Spec PyProof.Rows L2
open Evl (Ex Ex.refl Ex.trans Ex.new ex_rd ex_l ex_t)
section
variable {X : Cx} {W : WX} {A H0 : Hp} {e : Expr} {f : F}
end
section
variable {K : PySem.W.Frag} {W : WX} {A H0 : Hp} {fr : Bool} {Z : Ends} {σ : L2.St} {H : Hp} {i j : Nat} {f : F}
end
section
variable {X : Cx} {W : WX} {A H0 : Hp} {fr : Bool} {e : Expr} {f : F} {pos : Pos}
end
end BW
/-! BCore57: sorted(set(list of ints)). -/
namespace BW
open PySem PySem.Spec PyProof.Rows L2
open Evl (Ex Ex.refl Ex.trans Ex.new ex_rd ex_l ex_t)
section
variable {P : Program} {w : World} {A : Around} {E : Value → Shared → Prop}
end
section
variable {X : Cx} {W : WX} {A H0 : Hp} {e : Expr} {fs : FA}
end
end BW
/-! BCore58: sorted(dict). -/
namespace BW
open PySem PySem.Spec PyProof.Rows L2
open Evl (Ex Ex.refl Ex.trans Ex.new ex_rd ex_l ex_t)
end BW
/-! BCore59: texts: join, split, signs one by one, int(text), a text so many times. -/
namespace BW
open PySem PySem.Spec PyProof.Rows L2
open Evl (Ex Ex.refl Ex.trans Ex.new ex_rd ex_l ex_t)
section
variable {X : Cx} {W : WX} {A H0 : Hp} {o e a b : Expr} {fo fe fa fb : F} {pos : Pos}
end
end BW
/-! BCore60: names that own all within: got from a call that is handed a new list, told apart, changed at the end. -/
namespace BW
open PySem PySem.Spec PyProof.Rows L2
open Evl (Ex Ex.refl Ex.trans Ex.new ex_rd ex_l ex_t)
/-- all but the lists that were there -/
def kp (I I1 : Hp) : Hp := fun a => match I a with
  | some (.lst _) => none
  | _ => I1 a
/-! ### arguments of which the last is a new list -/
section
variable {X : Cx} {W : WX} {A H0 : Hp} {e1 e2 : Expr} {f1 f2 : F}
end
section
variable {X : Cx} {W : WX} {A H0 : Hp} {e : Expr} {pos : Pos} {x : Str} {j k : Nat} {fl : List Bool} {m : List D → R D} {es : List Expr} {fs : FA} {p : Pos}
end
/-! ### a triple told apart -/
section
variable {K : PySem.W.Frag} {A H0 : Hp} {env : En} {σ : L2.St} {I H I' H' : Hp}
end
section
variable {K : PySem.W.Frag} {W : WX} {A H0 : Hp} {fr : Bool} {Z : Ends} {σ : L2.St} {H : Hp} {i a b c : Nat} {f : F}
end
section
variable {X : Cx} {W : WX} {A H0 : Hp} {fr : Bool} {pos : Pos}
end
/-! ### changed at the end -/
section
variable {K : PySem.W.Frag} {W : WX} {A H0 : Hp} {fr : Bool} {Z : Ends} {σ : L2.St} {H : Hp} {i j : Nat} {f : F}
theorem Own.upd2 {env : En} {σ : L2.St} {I H0 H J : Hp} (w : Own env σ I H0 H J) {q : Addr} {ws : List V} (hq : J q = none) : Own env σ I H0 (L2.upd H q (.lst ws)) J := ⟨(fun a o e => by
    have na : a ≠ q := fun z => by rw [z, hq] at e; cases e
    rw [upd_ne na]; exact w.h a o e), w.i, w.z, w.l, w.mu, w.md⟩
end
section
variable {X : Cx} {W : WX} {A H0 : Hp} {fr : Bool} {e : Expr} {f : F} {pos : Pos}
end
end BW
/-! BCore61: defs that hand back None or a pair of two new lists. -/
namespace BW
open PySem PySem.Spec PyProof.Rows L2
open Evl (Ex Ex.refl Ex.trans Ex.new ex_rd ex_l ex_t)
def PostZ (K : PySem.W.Frag) (I H : Hp) (d : D) (Q : VK) : Prop := match d with
  | .non => ∀ I' H', Grow I H I' H' → Q .non H'
  | .tup [.lst as, .lst bs, .non] => ∀ t I' H', PPk K as bs I H I' H' t → Q (.ref t) H'
  | _ => False
def PostPP (K : PySem.W.Frag) (W : WX) (σ : L2.St) (I H : Hp) (r : R D) (Q : VK) : Prop := match r with
  | .ok d => PostZ K I H d Q
  | .er c p => ∀ cls od I' H', Grow I H I' H' → ErrIs K c p cls od I' → W cls od σ H'
  | .no => False
theorem PostPP.mk {K : PySem.W.Frag} {W : WX} {σ : L2.St} {I H : Hp} {d : D} {Q : VK} (h : PostZ K I H d Q) : PostPP K W σ I H (.ok d) Q := h
def spPP (K : PySem.W.Frag) (fl : List Bool) (m : List D → R D) : Sp := fun vs H Q E => ∃ ds I, Ex I H ∧ ArgsOk K I H fl vs ds ∧ PostPP K (fun cls od _ H' => E cls od H') [] I H (m ds) Q
section
variable {P : Program} {w : World} {K : PySem.W.Frag} {mg : Str → Option Value} {base : Heap}
structure CalPP (P : Program) (w : World) (K : PySem.W.Frag) (mg : Str → Option Value) (base : Heap) (x : Str) (k : Nat) (fl : List Bool) (m : List D → R D) : Prop where
  ex : ∃ (f : Addr) (fd : FuncData) (ps : List Str), FnOk P w K mg base (L2.CX P w) k f fd ps (spPP K fl m) ∧ mg x = some (.ref f) ∧ PySem.W.keepIn K (.ref f) = true ∧ Binds K fd ps []
end
section
variable {X : Cx} {W : WX} {A H0 : Hp} {e : Expr} {pos : Pos} {x : Str} {j k : Nat} {fl : List Bool} {m : List D → R D} {es : List Expr} {fs : FA} {p : Pos}
end
/-! ### handed back -/
section
variable {X : Cx} {W : WX} {A H0 : Hp} {c e : Expr} {f fc fe : F} {pos pos' : Pos}
theorem PPk.rd {K : PySem.W.Frag} {as bs : List D} {I H I' H' : Hp} {t : Addr} (k : PPk K as bs I H I' H' t) : ∃ I2, Grow I H I2 H' ∧ Rd K I2 (.ref t) (.tup [.lst as, .lst bs]) := by
  obtain ⟨ob, p, q, vs, ws, g, h1, ⟨h2, h3, h4⟩, ⟨h5, h6, h7⟩, ⟨h8, h9, h10⟩, h11, h12, h13⟩ := k
  have ntp : t ≠ p := fun z => by rw [z, h7] at h4; cases h4
  have ntq : t ≠ q := fun z => by rw [z, h10] at h4; cases h4
  have g1 := g.add h5 h6 h7
  have g2 := g1.add h8 (by rw [upd_ne (fun z => h11 z.symm)]; exact h9) h10
  have e3 : upd (upd I' p (.lst vs)) q (.lst ws) t = none := by rw [upd_ne ntq, upd_ne ntp]; exact h3
  have g3 := g2.add h2 e3 h4
  have x1 : Ex I' (upd (upd (upd I' p (.lst vs)) q (.lst ws)) t (.frz ob (.tup [.ref p, .ref q]))) := ((Ex.new h6).trans (Ex.new (by rw [upd_ne (fun z => h11 z.symm)]; exact h9))).trans (Ex.new e3)
  exact ⟨_, g3, .tup ⟨ob, h1, upd_same⟩ (.cons (.lst (by rw [upd_ne (fun z => ntp z.symm), upd_ne h11, upd_same]) (h12.mono x1)) (.cons (.lst (by rw [upd_ne (fun z => ntq z.symm), upd_same]) (h13.mono x1)) .nil))⟩
end
/-! ### a name set -/
/-- the two lists alone -/
def twoJ (p q : Addr) (vs ws : List V) : Hp := upd (upd (fun _ => none) p (.lst vs)) q (.lst ws)
theorem twoJ_some {p q : Addr} {vs ws : List V} {a : Addr} {o : HO} (h : twoJ p q vs ws a = some o) : (a = q ∧ o = .lst ws) ∨ (a = p ∧ o = .lst vs) := by
  unfold twoJ at h
  by_cases c : a = q
  · subst c; rw [upd_same] at h; cases h; exact .inl ⟨rfl, rfl⟩
  · rw [upd_ne c] at h
    by_cases d : a = p
    · subst d; rw [upd_same] at h; cases h; exact .inr ⟨rfl, rfl⟩
    · rw [upd_ne d] at h; cases h
theorem twoJ_l {p q : Addr} {vs ws : List V} (h : p ≠ q) : twoJ p q vs ws p = some (.lst vs) := by unfold twoJ; rw [upd_ne h, upd_same]
theorem twoJ_r {p q : Addr} {vs ws : List V} : twoJ p q vs ws q = some (.lst ws) := by unfold twoJ; rw [upd_same]
section
variable {K : PySem.W.Frag} {A H0 : Hp} {env : En} {σ : L2.St} {I H : Hp}
/-- such a pair as a name's own: both lists, where they lie, and the rest told -/
theorem PPk.own {as bs : List D} {I' H' : Hp} {t : Addr} (k : PPk K as bs I H I' H' t) (hl : (lfA as && lfA bs) = true) (r : Rel K A H0 env σ I H) (i : Nat) :
    ∃ I2 p q vs ws, Grow I H I2 H' ∧ p ≠ q ∧ vs.length = as.length ∧ RdA K (nol I2) vs as ∧ RdA K (nol I2) ws bs ∧ TupN (nol I2) t [.ref p, .ref q] ∧ Own (env.set i (.ow (.d (.tup [.lst as, .lst bs])))) (σ.set i (some (.ref t))) I2 H0 H' (twoJ p q vs ws) ∧ Rel K A H0 (env.set i (.ow (.d (.tup [.lst as, .lst bs])))) (σ.set i (some (.ref t))) I2 H' := by
  obtain ⟨l1, l2⟩ := Bool.and_eq_true_iff.mp hl
  obtain ⟨ob, p, q, vs, ws, g, h1, ⟨h2, h3, h4⟩, ⟨h5, h6, h7⟩, ⟨h8, h9, h10⟩, h11, h12, h13⟩ := k
  have ntp : p ≠ t := fun z => by rw [z, h4] at h7; cases h7
  have ntq : q ≠ t := fun z => by rw [z, h4] at h10; cases h10
  have g2 := g.add h2 h3 h4
  have x1 : Ex I' (upd I' t (.frz ob (.tup [.ref p, .ref q]))) := Ex.new h3
  have hT : TupN (nol (upd I' t (.frz ob (.tup [.ref p, .ref q])))) t [.ref p, .ref q] := ⟨ob, h1, nol_mk upd_same fun _ z => nomatch z⟩
  have k1 : RdA K (nol (upd I' t (.frz ob (.tup [.ref p, .ref q])))) vs as := (h12.mono x1).nol l1
  have k2 : RdA K (nol (upd I' t (.frz ob (.tup [.ref p, .ref q])))) ws bs := (h13.mono x1).nol l2
  have jn : ∀ a o, twoJ p q vs ws a = some o → upd I' t (.frz ob (.tup [.ref p, .ref q])) a = none ∧ H a = none ∧ ∃ us, o = .lst us := fun a o z => by
    rcases twoJ_some z with ⟨rfl, rfl⟩ | ⟨rfl, rfl⟩
    · exact ⟨by rw [upd_ne ntq]; exact h9, h8, _, rfl⟩
    · exact ⟨by rw [upd_ne ntp]; exact h6, h5, _, rfl⟩
  have jh : Ex (twoJ p q vs ws) H' := fun a o z => by
    rcases twoJ_some z with ⟨rfl, rfl⟩ | ⟨rfl, rfl⟩
    · exact h10
    · exact h7
  have me : Ex (nol (upd I' t (.frz ob (.tup [.ref p, .ref q])))) (mrg (nol (upd I' t (.frz ob (.tup [.ref p, .ref q])))) (twoJ p q vs ws)) := fun a o z => mrg_l z
  have mj : ∀ {a : Addr} {us : List V}, twoJ p q vs ws a = some (.lst us) → mrg (nol (upd I' t (.frz ob (.tup [.ref p, .ref q])))) (twoJ p q vs ws) a = some (.lst us) := fun {a us} z => by
    rw [mrg_r (nol_none (jn _ _ z).1)]; exact z
  have kd : Rd K (mrg (nol (upd I' t (.frz ob (.tup [.ref p, .ref q])))) (twoJ p q vs ws)) (.ref t) (.tup [.lst as, .lst bs]) := .tup (hT.mono me) (.cons (.lst (mj (twoJ_l h11)) (k1.mono me)) (.cons (.lst (mj twoJ_r) (k2.mono me)) .nil))
  have rr := r.set_ow (i := i) (d := .d (.tup [.lst as, .lst bs])) g2 (J := twoJ p q vs ws) jh jn kd
  have fr : ∀ {a : Addr} {o : HO}, H a = some o → twoJ p q vs ws a = none := fun {a o} e => by
    cases z : twoJ p q vs ws a with
    | none => rfl
    | some u => rw [(jn a u z).2.1] at e; cases e
  have w : Own (env.set i .no) (σ.set i (some (.ref t))) (upd I' t (.frz ob (.tup [.ref p, .ref q]))) H0 H' (twoJ p q vs ws) := by
    refine Own.set ⟨jh, fun a o e => (jn a o e).1, fun a o e => Evl.fresh_back r.g.h (jn a o e).2.1, fun a o e => (jn a o e).2.2, fun j l a e s => ?_, fun j ks l a e s => ?_⟩ (fun _ z => nomatch z) (fun _ _ z => nomatch z)
    · obtain ⟨b, us, y1, y2, _⟩ := r.mu j l e
      rw [s] at y1
      cases y1
      exact fr y2
    · obtain ⟨b, us, y1, y2, _⟩ := r.md j ks l e
      rw [s] at y1
      cases y1
      exact fr y2
  have w2 := w.set (i := i) (s := .ow (.d (.tup [.lst as, .lst bs]))) (x := some (.ref t)) (fun _ z => nomatch z) (fun _ _ z => nomatch z)
  rw [List.set_set, List.set_set] at w2
  exact ⟨_, p, q, vs, ws, g2, h11, k1.length, k1, k2, hT, w2, rr⟩
end
section
variable {X : Cx} {W : WX} {A H0 : Hp} {fr : Bool} {e : Expr} {f : F} {pos : Pos}
end
/-! ### changed -/
section
variable {K : PySem.W.Frag} {W : WX} {A H0 : Hp} {fr : Bool} {Z : Ends} {σ : L2.St} {H : Hp} {i : Nat} {f fa : F} {g : G}
end
section
variable {X : Cx} {W : WX} {A H0 : Hp} {fr : Bool} {e a : Expr} {f fa : F} {g : G} {pos pos2 : Pos} {rest : List Stmt}
end
end BW
/-! BCore62: reversed(range(n)). -/
namespace BW
open PySem PySem.Spec PyProof.Rows L2
open Evl (Ex Ex.refl Ex.trans Ex.new ex_rd ex_l ex_t)
section
variable {X : Cx} {W : WX} {A H0 : Hp} {tg a : Expr} {f : F} {pos pos2 : Pos}
end
end BW
/-! BCore63: x.extend(a told tuple). -/
namespace BW
open PySem PySem.Spec PyProof.Rows L2
open Evl (Ex Ex.refl Ex.trans Ex.new ex_rd ex_l ex_t)
end BW
/-! BCore64: rows that are never come to. -/
namespace BW
open PySem PySem.Spec PyProof.Rows L2
end BW
/-! BCore65: the head's run, looked at in two goes (each goes within the memory that one does not). -/
namespace BW
end BW
/-! BCore66: a dict whose keys are nested tuples, told by its entries. -/
namespace BW
open PySem PySem.Spec PyProof.Rows L2
open Evl (Ex Ex.refl Ex.trans Ex.new ex_rd ex_l ex_t)
abbrev MX := List (NestedKey × Addr × Value)
/-- the dict at a, by its entries -/
def memO (P : Program) (w : World) (a : Addr) (xs : MX) : HO := .ext fun h => ∃ o es ep, h.get? a = some o ∧ o.ExactDict ∧ o.data = .dict es ep ∧ es.toList = xs.map (entryOfKey (nestedKind P w))
theorem memO_ok {P : Program} {w : World} {H : Hp} {h : Heap} {a : Addr} {xs : MX} (x : ∃ o es ep, h.get? a = some o ∧ o.ExactDict ∧ o.data = .dict es ep ∧ es.toList = xs.map (entryOfKey (nestedKind P w))) : ObjOk P w H h a (memO P w a xs) :=
  ⟨x, (let ⟨o, _, _, e, _⟩ := x; ⟨o, e⟩), fun h1 h2 y k => let ⟨o, es, ep, e, r⟩ := y; ⟨o, es, ep, k o e, r⟩⟩
/-! the key that a value is -/
mutual
def nk : D → Option NestedKey
  | .int i => some (.num i)
  | .tup l => (nks l).map NestedKey.tup
  | _ => none
def nks : List D → Option (List NestedKey)
  | [] => some []
  | d :: l => (nk d).bind fun k => (nks l).map fun ks => k :: ks
end
section
variable {P : Program} {w : World} {K : PySem.W.Frag} {I H : Hp} {h : Heap}
mutual
theorem nk_is (e : Ex I H) (hok : HOk P w H h) : ∀ (d : D) (k : NestedKey) (v : V) (u : Value), nk d = some k → Rd K I v d → RelV v u → NestedIs h k u
  | .int i, k, v, u, hk, hr, hu => by
    cases hr
    have hk : some (NestedKey.num i) = some k := hk
    cases hk
    obtain ⟨t, rfl⟩ : ∃ t, u = Value.int i t := hu
    exact .int i t
  | .tup l, k, v, u, hk, hr, hu => by
    have hk : (nks l).map NestedKey.tup = some k := hk
    obtain ⟨ks, h1, rfl⟩ := Option.map_eq_some_iff.mp hk
    cases hr with
    | @tup a vs _ ht ha =>
      have hu : u = .ref a := hu
      subst hu
      obtain ⟨ob, _, hob⟩ := ht
      obtain ⟨h2, _, its, h3, o, h4, h5, n, h6⟩ := hok a _ (e a _ hob)
      rw [h2] at h4
      cases h4
      exact .tup h2 h5 h6 (nks_is e hok l ks vs its h1 ha h3)
  | .non, k, v, u, hk, _, _ => by cases hk
  | .bl _, k, v, u, hk, _, _ => by cases hk
  | .str _, k, v, u, hk, _, _ => by cases hk
  | .lst _, k, v, u, hk, _, _ => by cases hk
  | .scr _, k, v, u, hk, _, _ => by cases hk
  | .obj _ _, k, v, u, hk, _, _ => by cases hk
  | .exc _ _, k, v, u, hk, _, _ => by cases hk
  | .dct _ _, k, v, u, hk, _, _ => by cases hk
  | .dtt _ _, k, v, u, hk, _, _ => by cases hk
  | .adr _, k, v, u, hk, _, _ => by cases hk
theorem nks_is (e : Ex I H) (hok : HOk P w H h) : ∀ (ds : List D) (ks : List NestedKey) (vs : List V) (us : List Value), nks ds = some ks → RdA K I vs ds → Vals vs us → NestedAll h ks us
  | [], ks, vs, us, hk, hr, hu => by
    cases hr
    have hk : some [] = some ks := hk
    cases hk
    cases hu
    exact .nil
  | d :: l, ks, vs, us, hk, hr, hu => by
    cases hr with
    | cons h1 h2 =>
      cases hu with
      | cons g1 g2 =>
        have hk : (nk d).bind (fun k => (nks l).map fun ks => k :: ks) = some ks := hk
        cases h3 : nk d with
        | none => rw [h3] at hk; cases hk
        | some k0 =>
          rw [h3] at hk
          have hk : (nks l).map (fun ks => k0 :: ks) = some ks := hk
          obtain ⟨ks', h4, rfl⟩ := Option.map_eq_some_iff.mp hk
          exact .cons (nk_is e hok d k0 _ _ h3 h1 g1) (nks_is e hok l ks' _ _ h4 h2 g2)
end
end
/-- the key that a told value is, shallow enough -/
def nk8 (d : D) : Option NestedKey := match nk d with
  | some k => if k.depth ≤ 8 then some k else none
  | none => none
theorem nk8_some {d : D} {k : NestedKey} (h : nk8 d = some k) : nk d = some k ∧ k.depth ≤ 8 := by
  unfold nk8 at h
  cases h1 : nk d with
  | none => rw [h1] at h; cases h
  | some k0 =>
    rw [h1] at h
    have h : (if k0.depth ≤ 8 then some k0 else none) = some k := h
    by_cases c : k0.depth ≤ 8
    · rw [if_pos c] at h; cases h; exact ⟨rfl, c⟩
    · rw [if_neg c] at h; cases h
/-- the memo at a: its keys and values told, each value what it is to be -/
structure Mm (P : Program) (w : World) (K : PySem.W.Frag) (val : D → D → Prop) (I H : Hp) (a : Addr) (xs : MX) : Prop where
  at_ : H a = some (memO P w a xs)
  fr : I a = none
  ns : (a == sysModules) = false
  nd : (xs.map (·.1)).Nodup
  en : ∀ x ∈ xs, ∃ dk dv v, nk8 dk = some x.1 ∧ Rd K I (.ref x.2.1) dk ∧ RelV v x.2.2 ∧ Rd K I v dv ∧ val dk dv
section
variable {P : Program} {w : World} {K : PySem.W.Frag} {val : D → D → Prop} {I I' H H' : Hp} {h : Heap} {a : Addr} {xs : MX}
theorem Mm.grow (m : Mm P w K val I H a xs) (g : Grow I H I' H') : Mm P w K val I' H' a xs := by
  refine ⟨g.h _ _ m.at_, ?_, m.ns, m.nd, fun x hx => ?_⟩
  · cases q : I' a with
    | none => rfl
    | some o =>
      rcases g.new a o q with z | z
      · rw [m.fr] at z; cases z
      · rw [m.at_] at z; cases z
  · obtain ⟨dk, dv, v, h1, h2, h3, h4, h5⟩ := m.en x hx
    exact ⟨dk, dv, v, h1, h2.mono g.i, h3, h4.mono g.i, h5⟩
theorem Mm.dict (m : Mm P w K val I H a xs) (e : Ex I H) (hok : HOk P w H h) : h.DictOfH (nestedKind P w) a xs := by
  obtain ⟨⟨o, es, ep, h1, h2, h3, h4⟩, _, _⟩ := hok a _ m.at_
  refine ⟨o, es, ep, h1, h2, h3, h4, fun x hx => ?_, m.nd⟩
  obtain ⟨dk, _, _, k1, k2, _⟩ := m.en x hx
  obtain ⟨k3, k4⟩ := nk8_some k1
  exact ⟨nk_is e hok dk x.1 _ _ k3 k2 rfl, k4⟩
/-- what is looked up -/
theorem Mm.look (m : Mm P w K val I H a xs) {k : NestedKey} {p : Addr × Value} (h : atKey xs k = some p) : ∃ dk dv v, nk8 dk = some k ∧ RelV v p.2 ∧ Rd K I v dv ∧ val dk dv := by
  unfold atKey at h
  obtain ⟨x, h1, rfl⟩ := Option.map_eq_some_iff.mp h
  have hx := List.mem_of_find?_eq_some h1
  have hk := List.find?_some h1
  obtain ⟨dk, dv, v, k1, k2, k3, k4, k5⟩ := m.en x hx
  have hk : x.1 = k := of_decide_eq_true hk
  rw [hk] at k1
  exact ⟨dk, dv, v, k1, k3, k4, k5⟩
/-- one entry more -/
theorem Mm.put (m : Mm P w K val I H a xs) {k : NestedKey} (hn : atKey xs k = none) {b : Addr} {u : Value} {dk dv : D} {v : V} (h1 : nk8 dk = some k) (h2 : Rd K I (.ref b) dk) (h3 : RelV v u) (h4 : Rd K I v dv) (h5 : val dk dv) : Mm P w K val I (upd H a (memO P w a (xs ++ [(k, b, u)]))) a (xs ++ [(k, b, u)]) := by
  refine ⟨upd_same, m.fr, m.ns, ?_, fun x hx => ?_⟩
  · rw [List.map_append]
    refine List.nodup_append.mpr ⟨m.nd, by simp, fun y hy z hz e => ?_⟩
    have hz : z = k := by simpa using hz
    subst hz
    subst e
    obtain ⟨x, hx, e⟩ := List.mem_map.mp hy
    unfold atKey at hn
    have := List.find?_eq_none.mp (Option.map_eq_none_iff.mp hn) x hx
    exact this (decide_eq_true e)
  · rcases List.mem_append.mp hx with z | z
    · exact m.en x z
    · rw [List.mem_singleton.mp z]
      exact ⟨dk, dv, v, h1, h2, h3, h4, h5⟩
end
/-! ### the rules -/
section
variable {X : Cx} {i o e value : Expr} {pos pos' : Pos} {td ty tv : TE} {val : D → D → Prop}
/-- the dict x is a memo, y a told key -/
def MKey (X : Cx) (val : D → D → Prop) (H : Hp) (x y : V) (a b : Addr) (I : Hp) (xs : MX) (dk : D) (k : NestedKey) : Prop := x = .ref a ∧ y = .ref b ∧ Ex I H ∧ Mm X.prog X.w X.K val I H a xs ∧ nk8 dk = some k ∧ Rd X.K I (.ref b) dk
theorem mk_is {X : Cx} {val : D → D → Prop} {H : Hp} {x y : V} {a b : Addr} {I : Hp} {xs : MX} {dk : D} {k : NestedKey} (m : MKey X val H x y a b I xs dk k) {h : Heap} (hok : HOk X.prog X.w H h) : h.DictOfH (nestedKind X.prog X.w) a xs ∧ (nestedKind X.prog X.w).is h k b := by
  obtain ⟨_, _, e, mm, h1, h2⟩ := m
  obtain ⟨k3, k4⟩ := nk8_some h1
  exact ⟨mm.dict e hok, nk_is e hok dk k _ _ k3 h2 rfl, k4⟩
theorem mroom {A : Around} (h : A.units + 64 < cLine) {P : Program} {w : World} : (nestedKind P w).room A.in1 := by
  show A.in1.units + 8 < cLine
  rw [Around.in1_units]
  omega
/-- a new memo -/
def tMNew (P : Program) (w : World) : TE := fun _ H Q => ∀ p, H p = none → (p == sysModules) = false → Q (.ref p) (upd H p (memO P w p []))
theorem pe_mnew : PE X (.Dict [] [] pos) (tMNew X.prog X.w) := ⟨fun pins s σ H Q I h =>
  wpAny_Dict_empty ⟨.ref s.heap.objs.size, _, I.laid (a := s.heap.objs.size) (o := memO X.prog X.w s.heap.objs.size []) (t' := s.toks) (fun _ _ q => Heap.get?_push_of_some _ q) (Nat.le_refl _) (memO_ok ⟨_, #[], 0, Heap.get?_push_size _ rfl, ⟨rfl, rfl, rfl⟩, rfl, rfl⟩), rfl, h _ (I.hok.fresh (Nat.le_refl _)) (beq_eq_false_iff_ne.mpr (Ne.symm (Nat.ne_of_lt I.big)))⟩⟩
end
end BW
/-! BCore67: x.pop(i) and x.append(x.pop(i)) as statements. -/
namespace BW
open PySem PySem.Spec PyProof.Rows L2
open Evl (Ex Ex.refl Ex.trans Ex.new ex_rd ex_l ex_t)
section
variable {X : Cx} {W : WX} {A H0 : Hp} {fr : Bool} {a : Expr} {f : F} {pos : Pos}
end
end BW
/-! BCore68: len(dict); a def that is handed a memo and calls itself. -/
namespace BW
open PySem PySem.Spec PyProof.Rows L2
open Evl (Ex Ex.refl Ex.trans Ex.new ex_rd ex_l ex_t)
/-! ### len of a dict -/
/-! ### what holds for any start -/
section
variable {X : Cx} {st : Stmt} {e : Expr} {g : G} {f : F}
def tS (X : Cx) (W : WX) (g : G) : TS := fun Z σ H => ∃ A H0, rdS X.K W A H0 false g Z σ H
def tEa (X : Cx) (W : WX) (f : F) : TE := fun σ H Q => ∃ A H0, rdE X.K W A H0 f σ H Q
def tTa (X : Cx) (W : WX) (f : F) : TT := fun σ H Q => ∃ A H0, rdT X.K W A H0 f σ H Q
theorem ps_any {W : WX} (h : ∀ A H0, VS X W A H0 false st g) : PS X st (tS X W g) := ⟨fun pins s σ H Z I ⟨A, H0, q⟩ => (h A H0).run pins s σ H Z I q⟩
theorem pe_any {W : WX} (h : ∀ A H0, VE X W A H0 e f) : PE X e (tEa X W f) := ⟨fun pins s σ H Z I ⟨A, H0, q⟩ => (h A H0).run pins s σ H Z I q⟩
theorem pt_any {W : WX} (h : ∀ A H0, VT X W A H0 e f) : PT X e (tTa X W f) := ⟨fun pins s σ H Z I ⟨A, H0, q⟩ => (h A H0).run pins s σ H Z I q⟩
end
theorem less1_mono {H H' : Hp} {a : Addr} (e : Ex H H') : Ex (less1 H a) (less1 H' a) := fun b o z => by
  by_cases y : b = a
  · rw [y, less1_eq] at z; cases z
  · rw [less1_ne y] at z ⊢; exact e b o z
theorem less1_upd {H : Hp} {a : Addr} {o : HO} : less1 (upd H a o) a = less1 H a := by
  funext b
  by_cases y : b = a
  · rw [y, less1_eq, less1_eq]
  · rw [less1_ne y, less1_ne y, upd_ne y]
/-! ### slots that are told or not, beside a memo -/
structure RM (P : Program) (w : World) (K : PySem.W.Frag) (val : D → D → Prop) (a : Addr) (I0 Hs : Hp) (env : En) (σ : L2.St) (I H : Hp) (xs : MX) : Prop where
  len : σ.length = env.length
  im : ∀ (i : Nat) (d : D), env[i]? = some (Sl.im d) → ∃ v, σ[i]? = some (some v) ∧ Rd K I v d
  only : ∀ (i : Nat) (s : Sl), env[i]? = some s → s = .no ∨ ∃ d, s = .im d
  ex : Ex I H
  gr : Grow I0 (less1 Hs a) I (less1 H a)
  mm : Mm P w K val I H a xs
section
variable {P : Program} {w : World} {K : PySem.W.Frag} {val : D → D → Prop} {a : Addr} {I0 Hs I H I' H' : Hp} {env : En} {σ : L2.St} {xs xs' : MX}
theorem RM.rel (m : RM P w K val a I0 Hs env σ I H xs) : Rel K I H env σ I H := by
  refine ⟨Grow.refl m.ex, m.len, m.im, fun i l e => ?_, fun i d e => ?_, fun i j l l' b e _ _ _ => ?_, fun i ks l e => ?_, fun i j ks ls l l' b e _ _ _ => ?_, fun i d e => ?_, DkI.none fun i o d e => ?_⟩ <;>
  · rcases m.only _ _ e with z | ⟨_, z⟩ <;> cases z
theorem RM.grow (m : RM P w K val a I0 Hs env σ I H xs) (g : Grow I H I' H') : RM P w K val a I0 Hs env σ I' H' xs := by
  have mm' := m.mm.grow g
  refine ⟨m.len, fun i d e => ?_, m.only, g.ih, m.gr.trans ⟨g.i, less1_mono g.h, fun b o z => ?_, fun b o z => ?_⟩, mm'⟩
  · obtain ⟨v, h1, h2⟩ := m.im i d e
    exact ⟨v, h1, h2.mono g.i⟩
  · rw [less1_ne fun y => by rw [y, mm'.fr] at z; cases z]
    exact g.ih b o z
  · rcases g.new b o z with y | y
    · exact .inl y
    · refine .inr ?_
      by_cases c : b = a
      · rw [c, less1_eq]
      · rw [less1_ne c]; exact y
theorem RM.of_rel (m : RM P w K val a I0 Hs env σ I H xs) {e : En} {σ' : L2.St} (r : Rel K I H e σ' I' H') (ho : ∀ (i : Nat) (s : Sl), e[i]? = some s → s = .no ∨ ∃ d, s = .im d) : RM P w K val a I0 Hs e σ' I' H' xs := by
  have m' := m.grow r.g
  exact ⟨r.len, r.im, ho, m'.ex, m'.gr, m'.mm⟩
theorem RM.set (m : RM P w K val a I0 Hs env σ I H xs) (i : Nat) {v : V} {d : D} (h : Rd K I v d) : RM P w K val a I0 Hs (env.set i (.im d)) (σ.set i (some v)) I H xs := by
  refine ⟨by rw [List.length_set, List.length_set]; exact m.len, fun j d' e => ?_, fun j s e => ?_, m.ex, m.gr, m.mm⟩
  · by_cases c : i = j
    · subst c
      have hl : i < env.length := by
        have := (List.getElem?_eq_some_iff.1 e).1
        rwa [List.length_set] at this
      rw [List.getElem?_set_self hl] at e
      cases e
      exact ⟨v, List.getElem?_set_self (by rw [m.len]; exact hl), h⟩
    · rw [List.getElem?_set_ne c] at e ⊢
      exact m.im j d' e
  · by_cases c : i = j
    · subst c
      have hl : i < env.length := by
        have := (List.getElem?_eq_some_iff.1 e).1
        rwa [List.length_set] at this
      rw [List.getElem?_set_self hl] at e
      cases e
      exact .inr ⟨_, rfl⟩
    · rw [List.getElem?_set_ne c] at e
      exact m.only j s e
theorem RM.memo (m : RM P w K val a I0 Hs env σ I H xs) (g : Grow I (less1 H a) I' (less1 H' a)) (mm : Mm P w K val I' H' a xs') : RM P w K val a I0 Hs env σ I' H' xs' := by
  refine ⟨m.len, fun i d e => ?_, m.only, g.ih.trans less1_ex, m.gr.trans g, mm⟩
  obtain ⟨v, h1, h2⟩ := m.im i d e
  exact ⟨v, h1, h2.mono g.i⟩
theorem RM.put (m : RM P w K val a I0 Hs env σ I H xs) {k : NestedKey} (hn : atKey xs k = none) {b : Addr} {u : Value} {dk dv : D} {v : V} (h1 : nk8 dk = some k) (h2 : Rd K I (.ref b) dk) (h3 : RelV v u) (h4 : Rd K I v dv) (h5 : val dk dv) : RM P w K val a I0 Hs env σ I (upd H a (memO P w a (xs ++ [(k, b, u)]))) (xs ++ [(k, b, u)]) := by
  refine ⟨m.len, m.im, m.only, fun c o z => ?_, by rw [less1_upd]; exact m.gr, m.mm.put hn h1 h2 h3 h4 h5⟩
  rw [upd_ne fun y => by rw [y, m.mm.fr] at z; cases z]
  exact m.ex c o z
end
section
variable {X : Cx} {W : WX} {val : D → D → Prop} {a : Addr} {I0 Hs I H : Hp} {env : En} {σ : L2.St} {xs : MX} {g : G} {f : F}
end
/-- the first argument told, the second a memo -/
def spMm (P : Program) (w : World) (K : PySem.W.Frag) (val : D → D → Prop) (c : Nat) (m : D → R D) : Sp := fun vs H Q E => ∃ (a : Addr) (v : V) (d r : D) (I : Hp) (xs : MX), vs = [v, .ref a] ∧ Ex I H ∧ Mm P w K val I H a xs ∧ Rd K I v d ∧ m d = .ok r ∧ xs.length + c ≤ sizeLine ∧ ∀ v' I' H' xs', Grow I (less1 H a) I' (less1 H' a) → Mm P w K val I' H' a xs' → xs'.length ≤ xs.length + c → Rd K I' v' r → Q v' H'
/-! a key tells its value -/
mutual
theorem nk_inj : ∀ (d d' : D) (k : NestedKey), nk d = some k → nk d' = some k → d = d'
  | .int i, d', k, h1, h2 => by
    have h1 : some (NestedKey.num i) = some k := h1
    cases h1
    cases d' <;> first | (cases h2; done) | skip
    · rename_i j
      have h2 : some (NestedKey.num j) = some (.num i) := h2
      cases h2
      rfl
    · rename_i l
      have h2 : (nks l).map NestedKey.tup = some (.num i) := h2
      obtain ⟨_, _, z⟩ := Option.map_eq_some_iff.mp h2
      cases z
  | .tup l, d', k, h1, h2 => by
    have h1 : (nks l).map NestedKey.tup = some k := h1
    obtain ⟨ks, e1, rfl⟩ := Option.map_eq_some_iff.mp h1
    cases d' <;> first | (cases h2; done) | skip
    · rename_i l'
      have h2 : (nks l').map NestedKey.tup = some (.tup ks) := h2
      obtain ⟨ks', e2, z⟩ := Option.map_eq_some_iff.mp h2
      cases z
      rw [nks_inj l l' ks e1 e2]
  | .non, d', k, h1, _ => by cases h1
  | .bl _, d', k, h1, _ => by cases h1
  | .str _, d', k, h1, _ => by cases h1
  | .lst _, d', k, h1, _ => by cases h1
  | .scr _, d', k, h1, _ => by cases h1
  | .obj _ _, d', k, h1, _ => by cases h1
  | .exc _ _, d', k, h1, _ => by cases h1
  | .dct _ _, d', k, h1, _ => by cases h1
  | .dtt _ _, d', k, h1, _ => by cases h1
  | .adr _, d', k, h1, _ => by cases h1
theorem nks_inj : ∀ (l l' : List D) (ks : List NestedKey), nks l = some ks → nks l' = some ks → l = l'
  | [], l', ks, h1, h2 => by
    have h1 : some [] = some ks := h1
    cases h1
    cases l' with
    | nil => rfl
    | cons a l' =>
      have h2 : (nk a).bind (fun k => (nks l').map fun ks => k :: ks) = some [] := h2
      obtain ⟨k, _, h3⟩ := Option.bind_eq_some_iff.mp h2
      obtain ⟨_, _, z⟩ := Option.map_eq_some_iff.mp h3
      cases z
  | d :: l, l', ks, h1, h2 => by
    have h1 : (nk d).bind (fun k => (nks l).map fun ks => k :: ks) = some ks := h1
    obtain ⟨k, e1, h3⟩ := Option.bind_eq_some_iff.mp h1
    obtain ⟨ks1, e2, z⟩ := Option.map_eq_some_iff.mp h3
    subst z
    cases l' with
    | nil =>
      have h2 : some [] = some (k :: ks1) := h2
      cases h2
    | cons a l' =>
      have h2 : (nk a).bind (fun k => (nks l').map fun ks => k :: ks) = some (k :: ks1) := h2
      obtain ⟨k', f1, h4⟩ := Option.bind_eq_some_iff.mp h2
      obtain ⟨ks2, f2, z⟩ := Option.map_eq_some_iff.mp h4
      cases z
      rw [nk_inj d a _ e1 f1, nks_inj l l' _ e2 f2]
end
/-! putting a key that may be there -/
theorem Mm.putG {P : Program} {w : World} {K : PySem.W.Frag} {val : D → D → Prop} {I H : Hp} {a : Addr} {xs : MX} (m : Mm P w K val I H a xs) {k : NestedKey} {b : Addr} {u : Value} {dk dv : D} {v : V} (h1 : nk8 dk = some k) (h2 : Rd K I (.ref b) dk) (h3 : RelV v u) (h4 : Rd K I v dv) (h5 : val dk dv) : Mm P w K val I (upd H a (memO P w a (storedH xs k b u))) a (storedH xs k b u) := by
  cases h : atKey xs k with
  | none => rw [storedH_new h]; exact m.put h h1 h2 h3 h4 h5
  | some p =>
    rw [storedH_old h]
    refine ⟨upd_same, m.fr, m.ns, ?_, fun x hx => ?_⟩
    · have : (xs.map (putAt k u)).map (·.1) = xs.map (·.1) := by
        rw [List.map_map]
        refine List.map_congr_left fun x _ => ?_
        show (putAt k u x).1 = x.1
        unfold putAt
        split <;> rfl
      rw [this]
      exact m.nd
    · obtain ⟨y, hy, rfl⟩ := List.mem_map.mp hx
      obtain ⟨dk', dv', v', e1, e2, e3, e4, e5⟩ := m.en y hy
      unfold putAt
      by_cases c : y.1 = k
      · rw [if_pos c]
        rw [c] at e1
        have : dk = dk' := nk_inj _ _ _ (nk8_some h1).1 (nk8_some e1).1
        subst this
        exact ⟨dk, dv, v, by rw [c]; exact e1, e2, h3, h4, h5⟩
      · rw [if_neg c]
        exact ⟨dk', dv', v', e1, e2, e3, e4, e5⟩
theorem RM.putG {P : Program} {w : World} {K : PySem.W.Frag} {val : D → D → Prop} {a : Addr} {I0 Hs I H : Hp} {env : En} {σ : L2.St} {xs : MX} (m : RM P w K val a I0 Hs env σ I H xs) {k : NestedKey} {b : Addr} {u : Value} {dk dv : D} {v : V} (h1 : nk8 dk = some k) (h2 : Rd K I (.ref b) dk) (h3 : RelV v u) (h4 : Rd K I v dv) (h5 : val dk dv) : RM P w K val a I0 Hs env σ I (upd H a (memO P w a (storedH xs k b u))) (storedH xs k b u) := by
  refine ⟨m.len, m.im, m.only, fun c o z => ?_, by rw [less1_upd]; exact m.gr, m.mm.putG h1 h2 h3 h4 h5⟩
  rw [upd_ne fun y => by rw [y, m.mm.fr] at z; cases z]
  exact m.ex c o z
section
variable {X : Cx} {i o value : Expr} {pos pos' : Pos} {td ty tv : TE} {val : D → D → Prop}
def sMPutG (X : Cx) (val : D → D → Prop) (td ty tv : TE) : TS := fun Z σ H => tv σ H fun v H1 => td σ H1 fun x H2 => ty σ H2 fun y H3 => ∃ a b I xs dk k, MKey X val H3 x y a b I xs dk k ∧ xs.length < sizeLine ∧ ∀ u, RelV v u → Z.nx σ (upd H3 a (memO X.prog X.w a (storedH xs k b u)))
theorem ps_mputG (hu : X.A.units + 64 < cLine) (ho : PE X o td) (hi : PE X i ty) (hv : PE X value tv) (hs : swapsWith value (some (.Subscript o i pos')) pos.line X.env = pure false) : PS X (.Assign [.Subscript o i pos'] value pos) (sMPutG X val td ty tv) := by
  refine ⟨fun pins s σ H Z I h => ?_⟩
  refine wpAny_Assign_Subscript (thn (hv.run pins s σ H _ I h) fun r s1 ⟨v, H1, I1, rv, q1⟩ => thn (ho.run pins s1 σ H1 _ I1 q1) fun u s2 ⟨x, H2, I2, rx, q2⟩ => thn (hi.run pins s2 σ H2 _ I2 q2) fun iv s3 ⟨y, H3, I3, ry, a, b, J, xs, dk, k, m, hz, q3⟩ => ?_) hs
  obtain ⟨d1, d2⟩ := mk_is m I3.hok
  obtain ⟨rfl, rfl, _, mm, _⟩ := m
  obtain rfl : u = Value.ref a := rx
  obtain rfl : iv = Value.ref b := ry
  refine wpAny_setItem_heap (hsz := by omega) (mroom hu) d2 d1 fun h' dd' hs => ?_
  obtain ⟨ob, es, ep, hq, h2, h3, h4, _, _⟩ := dd'
  exact ⟨σ, _, I3.write (x := a) (e := a) (by rw [mm.at_]; trivial) (.inl rfl) (fun c q hb z => (hs.2 c hb).trans z) ⟨ob, hq⟩ (memO_ok ⟨ob, es, ep, hq, h2, h3, h4⟩), q3 r rv⟩
end
end BW
/-! BCore69: row_by, which is handed a memo and calls itself. -/
namespace BW
open PySem PySem.Spec PyProof.Rows L2
open Evl (Ex Ex.refl Ex.trans Ex.new ex_rd ex_l ex_t)
def rwE (s a b r e : Sl) (d : D) : En := [.im d, s, a, b, r, e, .no, .no]
def fw0 : F := f2 eqD (fA lenD (aCons (fI 0) aNil)) (fC (.int 0))
def fwU : F := f2 ixD (fI 0) (f1 negD (fC (.int 1)))
def fwSl : F := fSl (fI 0) oN (oS (f1 negD (fC (.int 1))))
def fw1 (mren : List D → R D) : F := fA mren (aCons fwSl aNil)
def fwc : F := f2 eqD (fI 2) (fI 3)
def fwv (mless : List D → R D) : F := fA mless (aCons (fLs (f2 catD (fLs (fA lstD (aCons (fC (.int 0)) aNil))) (fLs (fI 4)))) (aCons (fI 4) aNil))
def fwz : F := fIf (f2 eqD (fI 7) (fI 3)) (fI 2) (fI 7)
def fwy : F := fLs (fLc (f1 seqD (fI 6)) (tN 7) (fC (.bl true)) fwz [7])
def fwE : F := fLs (fLc (f1 seqD fwSl) (tN 6) (fC (.bl true)) fwy [6])
def rowM (mren mless : List D → R D) : Nat → D → R D
  | 0, _ => .no
  | n + 1, d => match fw0 (rwE .no .no .no .no .no d) with
    | .ok (.bl true) => .ok (.lst [.int 1])
    | .ok (.bl false) => (match nk8 d with
      | none => .no
      | some _ => (match fwU (rwE .no .no .no .no .no d) with
        | .ok (.tup [x, y]) => (fw1 mren (rwE .no .no .no .no .no d)).bind fun p => (rowM mren mless n p).bind fun r =>
          (match fwc (rwE .no (.im x) (.im y) (.im r) .no d) with
          | .ok (.bl true) => fwv mless (rwE .no (.im x) (.im y) (.im r) .no d)
          | .ok (.bl false) => (fwE (rwE .no (.im x) (.im y) (.im r) .no d)).bind fun q => (mren [q]).bind fun p2 => (rowM mren mless n p2).bind fun r2 => mless [r2, r]
          | _ => .no)
        | _ => .no))
    | _ => .no
def okS1 (s : Sl) : Prop := s = .no ∨ ∃ d, s = .im d
theorem okN : okS1 .no := .inl rfl
theorem okI {d : D} : okS1 (.im d) := .inr ⟨d, rfl⟩
/-- calls at most -/
def cst : Nat → Nat
  | 0 => 0
  | n + 1 => 2 * cst n + 1
def valW (mren mless : List D → R D) (dk dv : D) : Prop := ∃ n, rowM mren mless n dk = .ok dv
section
variable {mren mless : List D → R D}
theorem bindW_ok {α β : Type} {x : R α} {f : α → R β} {b : β} (h : x.bind f = .ok b) : ∃ a, x = .ok a ∧ f a = .ok b := by
  cases x with
  | ok a => exact ⟨a, rfl, h⟩
  | er c p => cases h
  | no => cases h
end
section
variable {X : Cx} {W : WX} {mren mless : List D → R D} {n k kl : Nat} {f : Addr} {fd : FuncData} {ps : List Str} {st0 stU stE : Stmt} {e1 ec ev e2 : Expr} {p1 p2 p3 p4 p5 p6 p7 p8 p9 p10 p11 p12 p13 p14 p15 p16 p17 p18 p19 p20 p21 p22 p23 p24 p25 p26 p27 p28 : Pos} {xr xl : Str}
end
end BW
/-! BCore70: row_by as a def; its call with a new memo; a, b = a tuple or a list. -/
namespace BW
open PySem PySem.Spec PyProof.Rows L2
open Evl (Ex Ex.refl Ex.trans Ex.new ex_rd ex_l ex_t)
section
variable {P : Program} {w : World} {K : PySem.W.Frag} {mg : Str → Option Value} {base : Heap} {mren mless : List D → R D}
end
structure CalR (P : Program) (w : World) (K : PySem.W.Frag) (mg : Str → Option Value) (base : Heap) (x : Str) (k : Nat) (mren mless : List D → R D) : Prop where
  ex : ∃ (f : Addr) (fd : FuncData) (ps : List Str), (∀ n, FnOk P w K mg base (L2.CX P w) (k + n) f fd ps (spMm P w K (valW mren mless) (cst n) (rowM mren mless n))) ∧ mg x = some (.ref f) ∧ PySem.W.keepIn K (.ref f) = true ∧ Binds K fd ps []
section
variable {X : Cx} {W : WX} {A H0 : Hp} {e : Expr} {fa : F} {pos p p2 : Pos} {x : Str} {j k : Nat} {mren mless : List D → R D}
end
/-! ### a, b = a tuple or a list -/
end BW
/-! BCore71: len(set(list of whole numbers)), the same number more than once. -/
namespace BW
open PySem PySem.Spec PyProof.Rows L2
end BW
/-! BCore72: rests_behind: four told arguments and a memo of what is known to be shut; it calls itself in a loop. -/
namespace BW
open PySem PySem.Spec PyProof.Rows L2
open Evl (Ex Ex.refl Ex.trans Ex.new ex_rd ex_l ex_t)
def rbE (m : Sl) (w k a g : D) (x y r q : Sl) : En := [.im w, .im k, .im a, .im g, m, x, y, r, .no, q]
/-- what e' tells is told by e -/
def KeE (e e' : En) : Prop := e'.length = e.length ∧ ∀ (i : Nat) (s : Sl), e'[i]? = some s → s = .no ∨ e[i]? = some s
theorem KeE.rel {K : PySem.W.Frag} {A H0 I H : Hp} {e e' : En} {σ : L2.St} (k : KeE e e') (r : Rel K A H0 e σ I H) : Rel K A H0 e' σ I H := r.less k.1 rfl fun i s h => (k.2 i s h).imp id fun z => ⟨z, rfl⟩
/-- the mirrors of its parts -/
structure RbF where
  g0 : G
  gU : G
  gC : G
  fi : F
  b0 : G
  b1 : G
  b2 : G
  ft : F
  ax : F
  ay : F
section
variable (B : RbF) (S : D → Prop)
open Classical in
noncomputable def rbGo (rec : D → D → R D) (m : Sl) (w k a g : D) (x y : Sl) : List D → R D
  | [] => .ok .non
  | d :: ds => match B.b0 (rbE m w k a g x y (.im d) .no) with
    | .nx e1 => (match B.b1 e1 with
      | .nx e2 => (match B.b2 e2 with
        | .nx e3 => if KeE e3 (rbE m w k a g x y (.im d) .no) then (match B.ft e3 with
          | .ok (.bl false) => rbGo rec m w k a g x y ds
          | .ok (.bl true) => (B.ax e3).bind fun a' => (B.ay e3).bind fun g' => if S (.tup [a', g']) then (rec a' g').bind fun q =>
            (match B.gC (rbE m w k a g x y (.im d) (.im q)) with
            | .rt r => .ok r
            | .nx e => if KeE e (rbE m w k a g x y .no .no) then rbGo rec m w k a g x y ds else .no
            | _ => .no) else .no
          | _ => .no) else .no
        | _ => .no)
      | _ => .no)
    | _ => .no
open Classical in
noncomputable def restM (ad : Addr) : Nat → D → D → D → D → R D
  | 0, _, _, _, _ => .no
  | n + 1, w, k, a, g => match B.g0 (rbE (.im (.adr ad)) w k a g .no .no .no .no) with
    | .rt r => .ok r
    | .nx e => if KeE e (rbE (.im (.adr ad)) w k a g .no .no .no .no) ∧ (nk8 (.tup [a, g])).isSome = true then
        (match B.gU (rbE (.im (.adr ad)) w k a g .no .no .no .no) with
        | .nx e1 => if KeE e1 (rbE (.im (.adr ad)) w k a g (e1.getD 5 .no) (e1.getD 6 .no) .no .no) ∧ okS1 (e1.getD 5 .no) ∧ okS1 (e1.getD 6 .no) then
            (match B.fi (rbE (.im (.adr ad)) w k a g (e1.getD 5 .no) (e1.getD 6 .no) .no .no) with
            | .ok (.lst ds) => rbGo B S (restM ad n w k) (.im (.adr ad)) w k a g (e1.getD 5 .no) (e1.getD 6 .no) ds
            | _ => .no) else .no
        | _ => .no) else .no
    | _ => .no
end
section
variable {B : RbF} {S S' : D → Prop}
/-- one turn that is told -/
theorem rbGo_inv {rec : D → D → R D} {m : Sl} {w k a g : D} {x y : Sl} {d : D} {ds : List D} {r : D} (h : rbGo B S rec m w k a g x y (d :: ds) = .ok r) : ∃ e1 e2 e3, B.b0 (rbE m w k a g x y (.im d) .no) = .nx e1 ∧ B.b1 e1 = .nx e2 ∧ B.b2 e2 = .nx e3 ∧ KeE e3 (rbE m w k a g x y (.im d) .no) ∧ ((B.ft e3 = .ok (.bl false) ∧ rbGo B S rec m w k a g x y ds = .ok r) ∨
    (B.ft e3 = .ok (.bl true) ∧ ∃ a' g' q, B.ax e3 = .ok a' ∧ B.ay e3 = .ok g' ∧ S (.tup [a', g']) ∧ rec a' g' = .ok q ∧ (B.gC (rbE m w k a g x y (.im d) (.im q)) = .rt r ∨ ∃ e, B.gC (rbE m w k a g x y (.im d) (.im q)) = .nx e ∧ KeE e (rbE m w k a g x y .no .no) ∧ rbGo B S rec m w k a g x y ds = .ok r))) := by
  unfold rbGo at h
  split at h <;> try (cases h; done)
  rename_i e1 h1
  split at h <;> try (cases h; done)
  rename_i e2 h2
  split at h <;> try (cases h; done)
  rename_i e3 h3
  split at h <;> try (cases h; done)
  rename_i hk
  refine ⟨e1, e2, e3, h1, h2, h3, hk, ?_⟩
  split at h <;> try (cases h; done)
  · rename_i h4
    exact .inl ⟨h4, h⟩
  · rename_i h4
    obtain ⟨a', h5, h⟩ := bindW_ok h
    obtain ⟨g', h6, h⟩ := bindW_ok h
    split at h <;> try (cases h; done)
    rename_i hS
    obtain ⟨q, h7, h⟩ := bindW_ok h
    refine .inr ⟨h4, a', g', q, h5, h6, hS, h7, ?_⟩
    split at h <;> try (cases h; done)
    · rename_i r' h8
      cases h
      exact .inl h8
    · rename_i e h8
      split at h <;> try (cases h; done)
      rename_i h9
      exact .inr ⟨e, h8, h9, h⟩
theorem rbGo_of {rec : D → D → R D} {m : Sl} {w k a g : D} {x y : Sl} {d : D} {ds : List D} {r : D} (h : ∃ e1 e2 e3, B.b0 (rbE m w k a g x y (.im d) .no) = .nx e1 ∧ B.b1 e1 = .nx e2 ∧ B.b2 e2 = .nx e3 ∧ KeE e3 (rbE m w k a g x y (.im d) .no) ∧ ((B.ft e3 = .ok (.bl false) ∧ rbGo B S rec m w k a g x y ds = .ok r) ∨
    (B.ft e3 = .ok (.bl true) ∧ ∃ a' g' q, B.ax e3 = .ok a' ∧ B.ay e3 = .ok g' ∧ S (.tup [a', g']) ∧ rec a' g' = .ok q ∧ (B.gC (rbE m w k a g x y (.im d) (.im q)) = .rt r ∨ ∃ e, B.gC (rbE m w k a g x y (.im d) (.im q)) = .nx e ∧ KeE e (rbE m w k a g x y .no .no) ∧ rbGo B S rec m w k a g x y ds = .ok r)))) : rbGo B S rec m w k a g x y (d :: ds) = .ok r := by
  obtain ⟨e1, e2, e3, h1, h2, h3, hk, h⟩ := h
  unfold rbGo
  rw [h1]
  simp only [h2, h3, if_pos hk]
  rcases h with ⟨h4, h5⟩ | ⟨h4, a', g', q, h5, h6, hS, h7, h⟩
  · simp only [h4, h5]
  · simp only [h4, h5, h6, h7, R.bind, if_pos hS]
    rcases h with h8 | ⟨e, h8, h9, h10⟩
    · simp only [h8]
    · simp only [h8, if_pos h9, h10]
theorem rbGo_mono {rec rec' : D → D → R D} (hS : ∀ d, S d → S' d) (hr : ∀ a g q, rec a g = .ok q → rec' a g = .ok q) {m : Sl} {w k a g : D} {x y : Sl} : ∀ {ds : List D} {r : D}, rbGo B S rec m w k a g x y ds = .ok r → rbGo B S' rec' m w k a g x y ds = .ok r
  | [], r, h => h
  | d :: ds, r, h => by
    obtain ⟨e1, e2, e3, h1, h2, h3, hk, h⟩ := rbGo_inv h
    refine rbGo_of ⟨e1, e2, e3, h1, h2, h3, hk, ?_⟩
    rcases h with ⟨h4, h5⟩ | ⟨h4, a', g', q, h5, h6, hs, h7, h⟩
    · exact .inl ⟨h4, rbGo_mono hS hr h5⟩
    · refine .inr ⟨h4, a', g', q, h5, h6, hS _ hs, hr _ _ _ h7, ?_⟩
      rcases h with h8 | ⟨e, h8, h9, h10⟩
      · exact .inl h8
      · exact .inr ⟨e, h8, h9, rbGo_mono hS hr h10⟩
theorem restM_inv {ad : Addr} {n : Nat} {w k a g r : D} (h : restM B S ad (n + 1) w k a g = .ok r) : B.g0 (rbE (.im (.adr ad)) w k a g .no .no .no .no) = .rt r ∨ ∃ e e1 x y ds key, B.g0 (rbE (.im (.adr ad)) w k a g .no .no .no .no) = .nx e ∧ KeE e (rbE (.im (.adr ad)) w k a g .no .no .no .no) ∧ nk8 (.tup [a, g]) = some key ∧ B.gU (rbE (.im (.adr ad)) w k a g .no .no .no .no) = .nx e1 ∧
    x = e1.getD 5 .no ∧ y = e1.getD 6 .no ∧ KeE e1 (rbE (.im (.adr ad)) w k a g x y .no .no) ∧ okS1 x ∧ okS1 y ∧ B.fi (rbE (.im (.adr ad)) w k a g x y .no .no) = .ok (.lst ds) ∧ rbGo B S (restM B S ad n w k) (.im (.adr ad)) w k a g x y ds = .ok r := by
  unfold restM at h
  split at h <;> try (cases h; done)
  · rename_i r' h0
    cases h
    exact .inl h0
  · rename_i e h0
    split at h <;> try (cases h; done)
    rename_i hk
    split at h <;> try (cases h; done)
    rename_i e1 h1
    split at h <;> try (cases h; done)
    rename_i h2
    split at h <;> try (cases h; done)
    rename_i ds h3
    obtain ⟨key, hkey⟩ := Option.isSome_iff_exists.mp hk.2
    exact .inr ⟨e, e1, _, _, ds, key, h0, hk.1, hkey, h1, rfl, rfl, h2.1, h2.2.1, h2.2.2, h3, h⟩
theorem restM_of {ad : Addr} {n : Nat} {w k a g r : D} (h : B.g0 (rbE (.im (.adr ad)) w k a g .no .no .no .no) = .rt r ∨ ∃ e e1 x y ds key, B.g0 (rbE (.im (.adr ad)) w k a g .no .no .no .no) = .nx e ∧ KeE e (rbE (.im (.adr ad)) w k a g .no .no .no .no) ∧ nk8 (.tup [a, g]) = some key ∧ B.gU (rbE (.im (.adr ad)) w k a g .no .no .no .no) = .nx e1 ∧
    x = e1.getD 5 .no ∧ y = e1.getD 6 .no ∧ KeE e1 (rbE (.im (.adr ad)) w k a g x y .no .no) ∧ okS1 x ∧ okS1 y ∧ B.fi (rbE (.im (.adr ad)) w k a g x y .no .no) = .ok (.lst ds) ∧ rbGo B S (restM B S ad n w k) (.im (.adr ad)) w k a g x y ds = .ok r) : restM B S ad (n + 1) w k a g = .ok r := by
  unfold restM
  rcases h with h0 | ⟨e, e1, x, y, ds, key, h0, hk, hkey, h1, rfl, rfl, h2, o1, o2, h3, h⟩
  · rw [h0]
  · rw [h0]
    simp only [if_pos (show KeE e (rbE (.im (.adr ad)) w k a g .no .no .no .no) ∧ (nk8 (.tup [a, g])).isSome = true from ⟨hk, by rw [hkey]; rfl⟩), h1, if_pos (show KeE e1 (rbE (.im (.adr ad)) w k a g (e1.getD 5 .no) (e1.getD 6 .no) .no .no) ∧ okS1 (e1.getD 5 .no) ∧ okS1 (e1.getD 6 .no) from ⟨h2, o1, o2⟩), h3]
    exact h
theorem restM_mono (hS : ∀ d, S d → S' d) {ad : Addr} {w k : D} : ∀ {n : Nat} {a g r : D}, restM B S ad n w k a g = .ok r → restM B S' ad n w k a g = .ok r
  | 0, _, _, _, h => by cases h
  | n + 1, a, g, r, h => by
    refine restM_of ((restM_inv h).imp id ?_)
    rintro ⟨e, e1, x, y, ds, key, h0, hk, hkey, h1, hx, hy, h2, o1, o2, h3, h4⟩
    exact ⟨e, e1, x, y, ds, key, h0, hk, hkey, h1, hx, hy, h2, o1, o2, h3, rbGo_mono hS (fun a g q z => restM_mono hS z) h4⟩
theorem restM_succ {ad : Addr} {w k : D} : ∀ {n : Nat} {a g r : D}, restM B S ad n w k a g = .ok r → restM B S ad (n + 1) w k a g = .ok r
  | 0, _, _, _, h => by cases h
  | n + 1, a, g, r, h => by
    refine restM_of ((restM_inv h).imp id ?_)
    rintro ⟨e, e1, x, y, ds, key, h0, hk, hkey, h1, hx, hy, h2, o1, o2, h3, h4⟩
    exact ⟨e, e1, x, y, ds, key, h0, hk, hkey, h1, hx, hy, h2, o1, o2, h3, rbGo_mono (fun _ z => z) (fun a g q z => restM_succ z) h4⟩
theorem restM_add {ad : Addr} {w k : D} {n : Nat} {a g r : D} (h : restM B S ad n w k a g = .ok r) : ∀ m, restM B S ad (n + m) w k a g = .ok r
  | 0 => h
  | m + 1 => restM_succ (restM_add h m)
theorem restM_one {ad : Addr} {w k : D} {n m : Nat} {a g r s : D} (h : restM B S ad n w k a g = .ok r) (i : restM B S ad m w k a g = .ok s) : r = s := by
  have u := restM_add h m
  have v := restM_add i n
  rw [Nat.add_comm m n, u] at v
  exact R.ok.inj v
end
/-- keys let, and no more of them than a dict may hold -/
def BndR (S : D → Prop) : Prop := ∀ l : List D, l.Nodup → (∀ d ∈ l, S d) → l.length < sizeLine
def valR (B : RbF) (S : D → Prop) (ad : Addr) (w k : D) (dk _dv : D) : Prop := S dk ∧ ∃ a g n, dk = .tup [a, g] ∧ restM B S ad n w k a g = .ok .non
def spRb (P : Program) (w : World) (K : PySem.W.Frag) (B : RbF) (n : Nat) : Sp := fun vs H Q E => ∃ (S : D → Prop) (a : Addr) (v1 v2 v3 v4 : V) (dw dk da dg r : D) (I : Hp) (xs : MX), vs = [v1, v2, v3, v4, .ref a] ∧ Ex I H ∧ Mm P w K (valR B S a dw dk) I H a xs ∧ Rd K I v1 dw ∧ Rd K I v2 dk ∧ Rd K I v3 da ∧ Rd K I v4 dg ∧ BndR S ∧ S (.tup [da, dg]) ∧ restM B S a n dw dk da dg = .ok r ∧
  ∀ v' I' H' xs', Grow I (less1 H a) I' (less1 H' a) → Mm P w K (valR B S a dw dk) I' H' a xs' → Rd K I' v' r → Q v' H'
def tIa (X : Cx) (W : WX) (f : F) : TI := fun σ H R => ∃ A H0, rdI X.K W A H0 f σ H R
theorem pi_any {X : Cx} {W : WX} {tg e : Expr} {f : F} (h : ∀ A H0, VI X W A H0 tg e f) : PI X tg e (tIa X W f) := ⟨fun pins s σ H R I ⟨A, H0, q⟩ => (h A H0).run pins s σ H R I q⟩
/-! looking into a memo, and putting, where what its entries say is told with it -/
section
variable {X : Cx} {i o value : Expr} {pos pos' : Pos} {td ty tv : TE}
end
section
variable {X : Cx} {W : WX} {n kf : Nat} {B : RbF} {f : Addr} {fd : FuncData} {ps : List Str} {st0 stN stU stb0 stb1 stb2 stC stR : Stmt} {ek ek2 ei et ex ey eT : Expr} {p1 p2 p3 p4 p5 p6 p7 p8 p9 p10 p11 p12 p13 p14 p15 p16 : Pos} {xr : Str}
end
end BW
/-! BCore73: rests_behind as a def; its call with a new memo. -/
namespace BW
open PySem PySem.Spec PyProof.Rows L2
open Evl (Ex Ex.refl Ex.trans Ex.new ex_rd ex_l ex_t)
section
variable {P : Program} {w : World} {K : PySem.W.Frag} {mg : Str → Option Value} {base : Heap} {B : RbF}
end
structure CalRb (P : Program) (w : World) (K : PySem.W.Frag) (mg : Str → Option Value) (base : Heap) (x : Str) (k : Nat) (B : RbF) : Prop where
  ex : ∃ (f : Addr) (fd : FuncData) (ps : List Str), (∀ n, FnOk P w K mg base (L2.CX P w) (k + n) f fd ps (spRb P w K B n)) ∧ mg x = some (.ref f) ∧ PySem.W.keepIn K (.ref f) = true ∧ Binds K fd ps []
/-- what is told with a new memo, whichever address it has -/
def RbOk (B : RbF) (n : Nat) (w k a g r : D) : Prop := ∃ S : D → Prop, BndR S ∧ S (.tup [a, g]) ∧ ∀ ad, restM B S ad n w k a g = .ok r
theorem RbOk.one {B : RbF} {n : Nat} {w k a g r s : D} (h : RbOk B n w k a g r) (i : RbOk B n w k a g s) : r = s := by
  obtain ⟨S, _, _, h3⟩ := h
  obtain ⟨T, _, _, i3⟩ := i
  exact restM_one (restM_mono (S' := fun _ => True) (fun _ _ => trivial) (h3 (0 : Nat))) (restM_mono (S' := fun _ => True) (fun _ _ => trivial) (i3 (0 : Nat)))
section
variable {X : Cx} {W : WX} {A H0 : Hp} {e1 e2 e3 e4 : Expr} {f1 f2 f3 f4 : F} {pos p p2 : Pos} {x : Str} {j k : Nat} {B : RbF}
end
end BW
/-! BCore74: what is looked at behind the head's run, in goes more. -/
namespace BW
end BW
/-! BCore75: a def that keeps pairs it has met in a dict of its own. -/
namespace BW
open PySem PySem.Spec PyProof.Rows L2
open Evl (Ex Ex.refl Ex.trans Ex.new ex_rd ex_l ex_t)
/-- the mirrors of its parts -/
structure MtF where
  f0 : F
  fi : F
  ft : F
  fi2 : F
  fk : F
section
variable {P : Program} {w : World} {K : PySem.W.Frag} {val : D → D → Prop} {a : Addr} {I0 Hs I H I' H' : Hp} {env env' : En} {σ : L2.St} {xs : MX}
theorem RM.weak (m : RM P w K val a I0 Hs env σ I H xs) (k : KeE env env') : RM P w K val a I0 Hs env' σ I H xs :=
  ⟨by rw [m.len, k.1], fun i d e => by
    rcases k.2 i _ e with z | z
    · cases z
    · exact m.im i d z, fun i s e => by
    rcases k.2 i _ e with z | z
    · exact .inl z
    · exact m.only i s z, m.ex, m.gr, m.mm⟩
end
section
variable {X : Cx} {W : WX} {A H0 : Hp} {B : MtF} {e0 ei et ei2 ek ek2 eT : Expr} {stF stF1 stF2 stR : Stmt} {x1 x2 x3 x4 x5 : Str} {p1 p2 p3 p4 p5 p6 p7 p8 p9 p10 p11 p12 p13 p14 p15 : Pos}
end
end BW
/-! BCore76: a < b < c as a test. -/
namespace BW
open PySem PySem.Spec PyProof.Rows L2
open Evl (Ex Ex.refl Ex.trans Ex.new ex_rd ex_l ex_t)
section
variable {X : Cx} {W : WX} {A H0 : Hp} {a b c : Expr} {fa fb fc : F} {pos : Pos} {op op' : CmpOp} {p q : Int → Int → Bool}
end
end BW
/-! BCore77: isinstance of an error by a tuple of three classes. -/
namespace BW
open PySem PySem.Spec PyProof.Rows L2
open Evl (Ex Ex.refl Ex.trans Ex.new ex_rd ex_l ex_t)
def rIsXT (K : PySem.W.Frag) : List V → Hp → VK → Prop := fun xs H Q => ∃ (a C tp : Addr) (cs : List V) (us : List Value) (b : Bool), xs = [.ref a, .ref tp] ∧ (H a = some (excO C none a) ∨ ∃ dd fs, H a = some (excO C (some dd) a) ∧ H dd = some (.xd fs)) ∧ ExcC K C ∧ H tp = some (.tup cs) ∧ Paired ClsV cs us ∧ PySem.W.kitAny K (.ref C) us = some b ∧ Q (.bl b) H
theorem call_isXT {X : Cx} : CallR X (.builtin "isinstance") (rIsXT X.K) := by
  intro pins s σ H xs us Q I r h
  obtain ⟨a, C, tp, cs, ws, b, rfl, ha, ex, hT, hc, hk, q⟩ := h
  obtain ⟨u1, u2, rfl, r1, r2⟩ := vals2 r
  cases (show u1 = Value.ref a from r1)
  cases (show u2 = Value.ref tp from r2)
  obtain ⟨_, its, rv, o, h1, h2, n, h3⟩ := (show ObjOk X.prog X.w H s.heap tp (.tup cs) from I.hok tp _ hT)
  have e3 := ClsV.all hc rv
  subst e3
  obtain ⟨oc, od, dt, sl⟩ := o
  simp only at h2 h3
  subst h2 h3
  rcases ha with ha | ⟨dd, fs, ha, hx0⟩
  · have o : ObjOk X.prog X.w H s.heap a (excO C none a) := I.hok a _ ha
    obtain ⟨⟨oe, hget, hz, vs, hv⟩, _⟩ := o
    have inst : PySem.W.InstAt s.heap a oe C none := by
      obtain ⟨h1, h2⟩ := hz
      obtain ⟨oc, od, oda, osl⟩ := oe
      have h1' : oc = .ref C := h1
      have h2' : od = none := h2
      have hv' : oda = .fields vs := hv
      subst h1' h2' hv'
      exact ⟨hget, rfl, rfl, trivial⟩
    exact PySem.W.kia_tup (PySem.W.handS_kitx_exc ex.hg ex.hk ex.hs ex.hd ex.ha ex.hn ex.ht ex.hm) I.kIn inst h1 hk (by intro z; cases z) fun tk => ⟨.bl b, H, I.kept (t' := tk) fun _ _ z => z, rfl, q⟩
  · have o : ObjOk X.prog X.w H s.heap a (excO C (some dd) a) := I.hok a _ ha
    obtain ⟨⟨oe, hget, hz, vs, hv⟩, _⟩ := o
    have hx : ObjOk X.prog X.w H s.heap dd (.xd fs) := I.hok dd _ hx0
    obtain ⟨mA, hns, _⟩ := hx
    obtain ⟨od, ho, _⟩ := lookIn_ns hns
    have inst : PySem.W.InstAt s.heap a oe C (some od) := ⟨hget, hz.1, by unfold PySem.W.notCls; rw [hv] <;> rfl, by rw [hz.2]; exact ho⟩
    exact PySem.W.kia_tup (PySem.W.bw_kitD ex) I.kIn inst h1 hk (by intro z; cases z) fun tk => ⟨.bl b, H, I.kept (t' := tk) fun _ _ z => z, rfl, q⟩
def isoT3D (t1 t2 t3 : List (Nat × Bool)) (d : D) : R D := match d with
  | .exc c l => if 1 < c ∧ l.length ≤ 1 then (match t1.lookup c, t2.lookup c, t3.lookup c with
    | some b1, some b2, some b3 => .ok (.bl (b1 || (b2 || b3)))
    | _, _, _ => .no) else .no
  | _ => .no
section
variable {X : Cx} {W : WX} {A H0 : Hp} {a : Expr} {fa : F} {pos : Pos}
theorem ve_isoT3 (y1 y2 y3 : Str) {C1 C2 C3 : Addr} {t1 t2 t3 : List (Nat × Bool)} {p q1 q2 q3 p4 : Pos} {k4} (T1 : IsoT X.K (.ref C1) t1) (T2 : IsoT X.K (.ref C2) t2) (T3 : IsoT X.K (.ref C3) t3) (hm : X.mg "isinstance" = none) (m1 : X.mg y1 = some (.ref C1)) (m2 : X.mg y2 = some (.ref C2)) (m3 : X.mg y3 = some (.ref C3)) (ha : VE X W A H0 a fa)
    (hg : Gl X "isinstance" := by rfl) (g1 : Gl X y1 := by rfl) (g2 : Gl X y2 := by rfl) (g3 : Gl X y3 := by rfl) (d1 : (y1 == ("__debug__" : Str)) = false := by decide) (d2 : (y2 == ("__debug__" : Str)) = false := by decide) (d3 : (y3 == ("__debug__" : Str)) = false := by decide)
    (hs : starEach (a :: [.Tuple [.Name y1 q1, .Name y2 q2, .Name y3 q3] k4 p4]) X.env = (false, eval a X.env) :: starEach [.Tuple [.Name y1 q1, .Name y2 q2, .Name y3 q3] k4 p4] X.env := by rfl) (hs2 : starEach (.Tuple [.Name y1 q1, .Name y2 q2, .Name y3 q3] k4 p4 :: []) X.env = (false, eval (.Tuple [.Name y1 q1, .Name y2 q2, .Name y3 q3] k4 p4) X.env) :: starEach [] X.env := by rfl)
    (hpl : (backTo pos (starEach [.Tuple [.Name y1 q1, .Name y2 q2, .Name y3 q3] k4 p4] X.env)).any (·.1) = false := by rfl)
    (e1 : starEach (.Name y1 q1 :: [.Name y2 q2, .Name y3 q3]) X.env = (false, eval (.Name y1 q1) X.env) :: starEach [.Name y2 q2, .Name y3 q3] X.env := by rfl) (e2 : starEach (.Name y2 q2 :: [.Name y3 q3]) X.env = (false, eval (.Name y2 q2) X.env) :: starEach [.Name y3 q3] X.env := by rfl) (e3 : starEach (.Name y3 q3 :: []) X.env = (false, eval (.Name y3 q3) X.env) :: starEach [] X.env := by rfl) :
    VE X W A H0 (.Call (.Name "isinstance" p) [a, .Tuple [.Name y1 q1, .Name y2 q2, .Name y3 q3] k4 p4] [] pos) (f1 (isoT3D t1 t2 t3) fa) :=
  pe_imp (pe_callB call_isXT hg hm (by decide +kernel) (pa_cons ha (pa_cons (pe_tup (pa_cons (pe_glob (v := .ref C1) g1 m1 rfl d1) (pa_cons (pe_glob (v := .ref C2) g2 m2 rfl d2) (pa_cons (pe_glob (v := .ref C3) g3 m3 rfl d3) pa_nil e3) e2) e1)) pa_nil hs2) hs) (by decide) (by decide) hs hpl) fun σ H Q ⟨env, I, rl, z⟩ => ⟨env, I, rl, by
    have z0 : PostE X.K W σ I H ((fa env).bind (isoT3D t1 t2 t3)) Q := z
    cases hf : fa env with
    | er c p => rw [hf] at z0; exact z0
    | no => rw [hf] at z0; exact z0
    | ok d =>
      rw [hf] at z0
      intro v I1 H1 g k
      cases d with
      | exc c l =>
        have z2 : PostE X.K W σ I H (if 1 < c ∧ l.length ≤ 1 then (match t1.lookup c, t2.lookup c, t3.lookup c with
          | some b1, some b2, some b3 => R.ok (.bl (b1 || (b2 || b3)))
          | _, _, _ => .no) else .no) Q := z0
        by_cases hc : 1 < c ∧ l.length ≤ 1
        · rw [if_pos hc] at z2
          cases h1 : t1.lookup c with
          | none => rw [h1] at z2; exact z2.elim
          | some b1 =>
            cases h2 : t2.lookup c with
            | none => rw [h1, h2] at z2; exact z2.elim
            | some b2 =>
              cases h3 : t3.lookup c with
              | none => rw [h1, h2, h3] at z2; exact z2.elim
              | some b3 =>
                rw [h1, h2, h3] at z2
                obtain ⟨k1, _, x1⟩ := T1 c b1 h1
                obtain ⟨k2, _, _⟩ := T2 c b2 h2
                obtain ⟨k3, _, _⟩ := T3 c b3 h3
                have hk : PySem.W.kitAny X.K (.ref (CL X.K c)) [.ref C1, .ref C2, .ref C3] = some (b1 || (b2 || b3)) := by
                  unfold PySem.W.kitAny
                  rw [k1]
                  cases b1 with
                  | true => rfl
                  | false =>
                    show (match PySem.W.kitOne X.K (.ref (CL X.K c)) (.ref C2) with
                      | some true => some true
                      | some false => PySem.W.kitAny X.K (.ref (CL X.K c)) [.ref C3]
                      | none => none) = _
                    rw [k2]
                    cases b2 with
                    | true => rfl
                    | false =>
                      show (match PySem.W.kitOne X.K (.ref (CL X.K c)) (.ref C3) with
                        | some true => some true
                        | some false => PySem.W.kitAny X.K (.ref (CL X.K c)) []
                        | none => none) = _
                      rw [k3]
                      cases b3 <;> rfl
                have at_ : ∃ p, v = .ref p ∧ (I1 p = some (excO (CL X.K c) none p) ∨ ∃ dd fs, I1 p = some (excO (CL X.K c) (some dd) p) ∧ I1 dd = some (.xd fs)) := by
                  cases k with
                  | exc0 h => exact ⟨_, rfl, .inl h⟩
                  | exc1 h h' h'' => exact ⟨_, rfl, .inr ⟨_, _, h, h'⟩⟩
                obtain ⟨p, rfl, hp⟩ := at_
                refine ⟨show 3 ≤ sizeLine by decide, fun T hT => ?_⟩
                have up : ∀ {b o}, H1 b = some o → upd H1 T (.tup [.ref C1, .ref C2, .ref C3]) b = some o := fun {b o} h => by rw [upd_ne fun y => by rw [y, hT] at h; cases h]; exact h
                refine ⟨p, CL X.K c, T, [.ref C1, .ref C2, .ref C3], [.ref C1, .ref C2, .ref C3], _, rfl, ?_, x1 hc.1, upd_same, .cons (.own C1) (.cons (.own C2) (.cons (.own C3) .nil)), hk, ?_⟩
                · rcases hp with h | ⟨dd, fs, h, h'⟩
                  · exact .inl (up (g.ih _ _ h))
                  · exact .inr ⟨dd, fs, up (g.ih _ _ h), up (g.ih _ _ h')⟩
                · exact z2 _ I1 _ (g.trans (Grow.hid g.ih fun b o h => up h)) .bl
        · rw [if_neg hc] at z2; exact z2.elim
      | _ => exact z0.elim⟩
end
end BW
/-! BCore78: len(set(list of pairs of whole numbers)). -/
namespace BW
open PySem PySem.Spec PyProof.Rows L2
end BW
/-! BCore79: values that are new all through, made by comprehensions; a list of tuples of lists, changed within. -/
namespace BW
open PySem PySem.Spec PyProof.Rows L2
open Evl (Ex Ex.refl Ex.trans Ex.new ex_rd ex_l ex_t)
section
variable {K : PySem.W.Frag} {W : WX} {σ : L2.St} {I H : Hp}
end
section
variable {X : Cx} {W : WX} {A H0 : Hp} {e : Expr} {f : F} {pos : Pos}
end
section
variable {X : Cx} {W : WX} {A H0 : Hp} {tg : Expr}
end
section
variable {X : Cx} {W : WX} {A H0 : Hp} {a : Expr} {fa : F} {pos : Pos} {p : Pos}
end
/-! ### set, from a comprehension over a name lent -/
section
variable {K : PySem.W.Frag} {W : WX} {A H0 : Hp} {fr : Bool} {σ : L2.St} {H I I' : Hp} {env : En} {Z : Ends}
end
section
variable {X : Cx} {W : WX} {A H0 : Hp} {fr : Bool} {tg : Expr} {pos : Pos}
end
end BW
/-! BCore80: for y in x: y[1].append(0); y[2].append(0), and then x.append(x[0]): x an own list of tuples of four lists, forgotten behind it. -/
namespace BW
open PySem PySem.Spec PyProof.Rows L2
open Evl (Ex Ex.refl Ex.trans Ex.new ex_rd ex_l ex_t)
section
variable {K : PySem.W.Frag} {A H0 : Hp} {env : En} {σ : L2.St} {I H J : Hp}
/-- what changes, changes the lists of ints alone -/
structure Wid (J Jk : Hp) (p : Addr) (vs : List V) (k : Nat) : Prop where
  hp : Jk p = some (.lst vs)
  hl : ∀ q us, J q = some (.lst us) → q ≠ p → ∃ ws, Jk q = some (.lst ws) ∧ ws.length ≤ us.length + k
theorem Wid.step {Jk : Hp} {p q : Addr} {vs ws : List V} {k : Nat} {x : V} (h : Wid J Jk p vs k) (hq : Jk q = some (.lst ws)) (c : q ≠ p) : Wid J (upd Jk q (.lst (ws ++ [x]))) p vs (k + 1) := by
  refine ⟨by rw [upd_ne fun z => c z.symm]; exact h.hp, fun r ys hr cr => ?_⟩
  obtain ⟨zs, e1, e2⟩ := h.hl r ys hr cr
  by_cases d : r = q
  · subst d
    rw [hq] at e1
    cases e1
    exact ⟨_, upd_same, by rw [List.length_append]; show ws.length + 1 ≤ _; omega⟩
  · exact ⟨zs, by rw [upd_ne d]; exact e1, by omega⟩
end
section
variable {X : Cx} {W : WX} {A H0 : Hp} {fr : Bool} {rest : List Stmt} {g : G}
end
end BW
/-! BCore81: an own instance that is never changed: it is made, its methods are called. -/
namespace BW
open PySem PySem.Spec PyProof.Rows L2
open Evl (Ex Ex.refl Ex.trans Ex.new ex_rd ex_l ex_t)
section
variable {X : Cx} {CX : CXT} {k : Nat} {g C : Addr} {fd : FuncData} {ps : List Str} {sp : Sp} {E : L2.St → XK} {m : Str} {cp ap : Pos} {e o : Expr} {es : List Expr} {to : TE} {ta : TA} {pl : Sem Bool}
end
/-- a method, told -/
structure CalM (P : Program) (w : World) (K : PySem.W.Frag) (mg : Str → Option Value) (base : Heap) (c : Nat) (y : Str) (k : Nat) (fl : List Bool) (md : List D → R D) : Prop where
  ex : ∃ (f : Addr) (fd : FuncData) (ps : List Str), FnOk P w K mg base (L2.CX P w) k f fd ps (spF K (true :: fl) md) ∧ Meth K (CL K c) y f ∧ Binds K fd ps []
  cl : Cls K (CL K c)
section
variable {X : Cx} {W : WX} {A H0 : Hp} {o e : Expr} {es : List Expr} {fo : F} {fs : FA} {cp ap : Pos} {y : Str} {j k c : Nat} {fl : List Bool} {md : List D → R D} {pl : Sem Bool}
end
/-! ### made -/
def spDk (K : PySem.W.Frag) (md : D → R D) : Sp := fun vs H Q E => ∃ (x dx : Addr) (v : V) (d : D) (H1 I : Hp), vs = [.ref x, v] ∧ H1 x = none ∧ H1 dx = none ∧ dx ≠ x ∧ H = upd (upd H1 dx (.own x)) x (.ins (CL K 1) dx []) ∧ Ex I H1 ∧ Rd K I v d ∧
  match md d with
  | .ok h => ∀ I' H', Grow I H1 I' H' → Rd K I' (.ref x) (.obj 1 [h]) → Q .non H'
  | .er c p => ∀ cls od I' H', Grow I H1 I' H' → ErrIs K c p cls od I' → E cls od H'
  | .no => False
section
variable {P : Program} {w : World} {K : PySem.W.Frag} {mg : Str → Option Value} {base : Heap}
end
structure DeskC (P : Program) (w : World) (K : PySem.W.Frag) (mg : Str → Option Value) (base : Heap) (k : Nat) (md : D → R D) : Prop where
  ex : ∃ (f : Addr) (fd : FuncData), Mk K (CL K 1) f ∧ FnOk P w K mg base (L2.CX P w) k f fd ["self", "text"] (spDk K md) ∧ mg "Desk" = some (.ref (CL K 1)) ∧ Binds K fd ["self", "text"] []
section
variable {X : Cx} {W : WX} {A H0 : Hp} {e : Expr} {fe : F} {p pos : Pos} {j k : Nat} {md : D → R D}
end
end BW
/-! BCore82: try with several clauses, each with a name or without. -/
namespace BW
open PySem PySem.Spec PyProof.Rows L2
open Evl (Ex Ex.refl Ex.trans Ex.new ex_rd ex_l ex_t)
/-- clauses: the class that each names, its slot if it keeps the error, its suite -/
inductive HdK (X : Cx) : List ExceptHandler → List (Value × Option Nat × TS) → Prop
  | nil : HdK X [] []
  | keep {x n : Str} {c : Value} {i : Nat} {np pos' : Pos} {b₀ : Stmt} {suite : List Stmt} {ts : TS} {hds : List ExceptHandler} {l : List (Value × Option Nat × TS)} (slot : X.N[i]? = some n) (loc : X.env.kindOf n = some .local) (nm : Names X x c)
      (hsu : ∀ (a : Addr) (pn : List (Addr × Obj)), PSs (Cx.inSuite X a pn) (b₀ :: suite) ts) (r : HdK X hds l) : HdK X (.ExceptHandler (some (.Name x np)) (some n) (b₀ :: suite) pos' :: hds) ((c, some i, ts) :: l)
  | drop {x : Str} {c : Value} {np pos' : Pos} {b₀ : Stmt} {suite : List Stmt} {ts : TS} {hds : List ExceptHandler} {l : List (Value × Option Nat × TS)} (nm : Names X x c)
      (hsu : ∀ (a : Addr) (pn : List (Addr × Obj)), PSs (Cx.inSuite X a pn) (b₀ :: suite) ts) (r : HdK X hds l) : HdK X (.ExceptHandler (some (.Name x np)) none (b₀ :: suite) pos' :: hds) ((c, none, ts) :: l)
def wKs (K : PySem.W.Frag) (Wout : WX) (D : Ends) : List (Value × Option Nat × TS) → WX
  | [] => Wout
  | (c, some i, ts) :: l => fun cls d σ H => ∃ b, PySem.W.exmOne K cls c = some b ∧ (b = true → ∀ a, H a = none → ts { nx := fun σ' H' => D.nx (σ'.set i none) H', rt := D.rt, bk := fun σ' H' => D.bk (σ'.set i none) H', ct := fun σ' H' => D.ct (σ'.set i none) H' } (σ.set i (some (.ref a))) (upd H a (excV cls d a))) ∧ (b = false → wKs K Wout D l cls d σ H)
  | (c, none, ts) :: l => fun cls d σ H => ∃ b, PySem.W.exmOne K cls c = some b ∧ (b = true → ts D σ H) ∧ (b = false → wKs K Wout D l cls d σ H)
section
variable {X : Cx} {body : List Stmt} {h₀ : ExceptHandler} {hds : List ExceptHandler} {l : List (Value × Option Nat × TS)} {pos : Pos} {tb : WX → TS} {Wout : WX}
end
/-! ### as functions of the environment -/
/-- clauses: what each class's errors do, the slot, the suite -/
abbrev HL := List (List (Nat × Bool) × Option Nat × G)
def SR.tryKs (r : SR) : HL → SR
  | [] => r
  | (tb, o, gs) :: l => match r with
    | .er e c p => (match tb.lookup c with
      | some true => (match o with
        | some i => suiteEnd i (gs (e.set i (.im (.exc c p))))
        | none => (match gs e with
          | .er _ _ _ => .no
          | s => s))
      | some false => SR.tryKs r l
      | none => .no)
    | r => r
inductive HdG (X : Cx) (A H0 : Hp) (fr : Bool) : List ExceptHandler → HL → List (Value × Option Nat × TS) → Prop
  | nil : HdG X A H0 fr [] [] []
  | keep {x n : Str} {c : Value} {tb : List (Nat × Bool)} {i : Nat} {np pos' : Pos} {b₀ : Stmt} {suite : List Stmt} {gs : G} {hds : List ExceptHandler} {l : HL} {k : List (Value × Option Nat × TS)} (T : ExmT X.K c tb) (slot : X.N[i]? = some n) (loc : X.env.kindOf n = some .local) (nm : Names X x c)
      (hsu : ∀ (a : Addr) (pn : List (Addr × Obj)), VSs (Cx.inSuite X a pn) WF A H0 fr (b₀ :: suite) gs) (r : HdG X A H0 fr hds l k) : HdG X A H0 fr (.ExceptHandler (some (.Name x np)) (some n) (b₀ :: suite) pos' :: hds) ((tb, some i, gs) :: l) ((c, some i, rdS X.K WF A H0 fr gs) :: k)
  | drop {x : Str} {c : Value} {tb : List (Nat × Bool)} {np pos' : Pos} {b₀ : Stmt} {suite : List Stmt} {gs : G} {hds : List ExceptHandler} {l : HL} {k : List (Value × Option Nat × TS)} (T : ExmT X.K c tb) (nm : Names X x c)
      (hsu : ∀ (a : Addr) (pn : List (Addr × Obj)), VSs (Cx.inSuite X a pn) WF A H0 fr (b₀ :: suite) gs) (r : HdG X A H0 fr hds l k) : HdG X A H0 fr (.ExceptHandler (some (.Name x np)) none (b₀ :: suite) pos' :: hds) ((tb, none, gs) :: l) ((c, none, rdS X.K WF A H0 fr gs) :: k)
section
variable {X : Cx} {W : WX} {A H0 : Hp} {fr : Bool}
theorem HdG.k {hds : List ExceptHandler} {l : HL} {k : List (Value × Option Nat × TS)} (h : HdG X A H0 fr hds l k) : HdK X hds k := by
  induction h with
  | nil => exact .nil
  | keep T slot loc nm hsu r ih => exact .keep slot loc nm hsu ih
  | drop T nm hsu r ih => exact .drop nm hsu ih
theorem HdG.run {hds : List ExceptHandler} {l : HL} {k : List (Value × Option Nat × TS)} (h : HdG X A H0 fr hds l k) {Z : Ends} {I : Hp} {e : En} {c : Nat} {p : List D} (q : PostS X.K W A H0 fr I Z (SR.tryKs (.er e c p) l)) {σ1 : L2.St} {I1 H1 : Hp} {cls : Value} {od : Option Addr} (r1 : Rel X.K A H0 e σ1 I1 H1) (e1 : Ex I I1) (err : ErrIs X.K c p cls od I1) : wKs X.K W Z k cls od σ1 H1 := by
  have hcl : cls = .ref (CL X.K c) := err.1
  induction h with
  | nil => exact q σ1 I1 H1 cls od r1 e1 err
  | @keep x n cc tb i np pos' b₀ suite gs hds l k T slot loc nm hsu r ih =>
    have q1 : PostS X.K W A H0 fr I Z (match tb.lookup c with
      | some true => suiteEnd i (gs (e.set i (.im (.exc c p))))
      | some false => SR.tryKs (.er e c p) l
      | none => .no) := q
    cases ht : tb.lookup c with
    | none => rw [ht] at q1; exact q1.elim
    | some b =>
      rw [ht] at q1
      refine ⟨b, by rw [hcl]; exact T c b ht, fun hb1 => ?_, fun hb1 => ?_⟩
      · subst hb1
        intro a ha
        subst hcl
        have g := Grow.push (o := excV (.ref (CL X.K c)) od a) r1.g.ih ha
        have hrd : Rd X.K (upd I1 a (excV (.ref (CL X.K c)) od a)) (.ref a) (.exc c p) := by
          have e2 := err.2
          match p, e2 with
          | [], e2 =>
            have hod : od = none := e2
            subst hod
            exact .exc0 upd_same
          | [d], e2 =>
            obtain ⟨dx, v, hod, hd, hx⟩ := e2
            subst hod
            exact .exc1 upd_same (g.i _ _ hx) (Rd.of_sc hd)
        refine ⟨_, _, (r1.grow g).set_im (i := i) (d := .exc c p) hrd, ?_⟩
        have ei : Ex I (upd I1 a (excV (.ref (CL X.K c)) od a)) := e1.trans g.i
        have q2 : PostS X.K W A H0 fr I Z (suiteEnd i (gs (e.set i (.im (.exc c p))))) := q1
        cases hs : gs (e.set i (.im (.exc c p))) with
        | nx e2 => rw [hs] at q2; exact fun σ3 I3 H3 r3 e3 => q2 _ I3 H3 (r3.wipe [i]) (ei.trans e3)
        | bk e2 => rw [hs] at q2; exact fun σ3 I3 H3 r3 e3 => q2 _ I3 H3 (r3.wipe [i]) (ei.trans e3)
        | ct e2 => rw [hs] at q2; exact fun σ3 I3 H3 r3 e3 => q2 _ I3 H3 (r3.wipe [i]) (ei.trans e3)
        | rt d => rw [hs] at q2; exact q2
        | er e2 k2 p2 => rw [hs] at q2; exact q2.elim
        | no => rw [hs] at q2; exact q2.elim
      · subst hb1
        exact ih q1
  | @drop x cc tb np pos' b₀ suite gs hds l k T nm hsu r ih =>
    have q1 : PostS X.K W A H0 fr I Z (match tb.lookup c with
      | some true => (match gs e with
          | .er _ _ _ => .no
          | s => s)
      | some false => SR.tryKs (.er e c p) l
      | none => .no) := q
    cases ht : tb.lookup c with
    | none => rw [ht] at q1; exact q1.elim
    | some b =>
      rw [ht] at q1
      refine ⟨b, by rw [hcl]; exact T c b ht, fun hb1 => ?_, fun hb1 => ?_⟩
      · subst hb1
        refine ⟨e, I1, r1, ?_⟩
        have q2 : PostS X.K W A H0 fr I Z (match gs e with
          | .er _ _ _ => .no
          | s => s) := q1
        cases hs : gs e with
        | nx e2 => rw [hs] at q2; exact fun σ3 I3 H3 r3 e3 => q2 _ I3 H3 r3 (e1.trans e3)
        | bk e2 => rw [hs] at q2; exact fun σ3 I3 H3 r3 e3 => q2 _ I3 H3 r3 (e1.trans e3)
        | ct e2 => rw [hs] at q2; exact fun σ3 I3 H3 r3 e3 => q2 _ I3 H3 r3 (e1.trans e3)
        | rt d => rw [hs] at q2; exact q2
        | er e2 k2 p2 => rw [hs] at q2; exact q2.elim
        | no => rw [hs] at q2; exact q2.elim
      · subst hb1
        exact ih q1
end
end BW
/-! BCore83: methods that hand back a new list. -/
namespace BW
open PySem PySem.Spec PyProof.Rows L2
open Evl (Ex Ex.refl Ex.trans Ex.new ex_rd ex_l ex_t)
structure CalMN (P : Program) (w : World) (K : PySem.W.Frag) (mg : Str → Option Value) (base : Heap) (c : Nat) (y : Str) (k : Nat) (fl : List Bool) (md : List D → R D) : Prop where
  ex : ∃ (f : Addr) (fd : FuncData) (ps : List Str), FnOk P w K mg base (L2.CX P w) k f fd ps (spN K (true :: fl) md) ∧ Meth K (CL K c) y f ∧ Binds K fd ps []
  cl : Cls K (CL K c)
section
variable {X : Cx} {W : WX} {A H0 : Hp} {o e : Expr} {es : List Expr} {fo : F} {fs : FA} {cp ap : Pos} {y : Str} {j k c : Nat} {fl : List Bool} {md : List D → R D} {pl : Sem Bool}
end
end BW
/-! BCore84: a pair of two own lists handed back; such a pair told apart into two own lists. -/
namespace BW
open PySem PySem.Spec PyProof.Rows L2
open Evl (Ex Ex.refl Ex.trans Ex.new ex_rd ex_l ex_t)
section
variable {X : Cx} {W : WX} {A H0 : Hp} {e : Expr} {f : F} {pos pos' : Pos}
end
end BW
/-! BCore85: the head's facts looked at in a part of the heap whose addresses are listed (to find them in the run costs much memory). -/
namespace BW
open PySem PySem.Spec PyProof.Rows L2
open Evl (Ex Ex.refl Ex.trans Ex.new ex_rd ex_l ex_t)
end BW
/-! BCore86: lists within a list of one's own, that are put to and taken from (they lie in the base heap). -/
namespace BW
open PySem PySem.Spec PyProof.Rows L2
open Evl (Ex Ex.refl Ex.trans Ex.new ex_rd ex_l ex_t)
def nlS (env : En) : Prop := ∀ (i : Nat) (s : Sl), env[i]? = some s → s = .no ∨ (∃ d, s = .im d) ∨ ∃ l, s = .mu l
section
variable {K : PySem.W.Frag} {A H0 HB I H I' H' : Hp} {env env' : En} {σ σ' : L2.St}
/-- an object more that is pinned -/
theorem Rel.pinN (r : Rel K A HB env σ I H) (ho : nlS env) {p : Addr} {o : HO} (h1 : H p = some o) (h2 : I p = none) (hm : ∀ (j : Nat) (l : List D), env[j]? = some (Sl.mu l) → σ[j]? ≠ some (some (V.ref p))) : Rel K A (upd HB p o) env σ I H := by
  refine ⟨⟨r.g.i, fun a x e => ?_, r.g.ih, fun a x e => ?_⟩, r.len, r.im, fun i l e => ?_, fun i d e => ?_, r.ap, fun i ks l e => ?_, r.apd, fun i d e => ?_, DkI.none fun i o d e => ?_⟩
  · by_cases y : a = p
    · subst y; rw [upd_same] at e; rw [← e]; exact h1
    · rw [upd_ne y] at e; exact r.g.h a x e
  · rcases r.g.new a x e with z | z
    · exact .inl z
    · refine .inr ?_
      rw [upd_ne fun y => by rw [y, h2] at e; cases e]
      exact z
  · obtain ⟨a, vs, k1, k2, k3, k4, k5⟩ := r.mu i l e
    exact ⟨a, vs, k1, k2, k3, by rw [upd_ne fun y => hm i l e (by rw [k1, y])]; exact k4, k5⟩
  · rcases ho i _ e with z | ⟨_, z⟩ | ⟨_, z⟩ <;> cases z
  · rcases ho i _ e with z | ⟨_, z⟩ | ⟨_, z⟩ <;> cases z
  · rcases ho i _ e with z | ⟨_, z⟩ | ⟨_, z⟩ <;> cases z
  · rcases ho i _ e with z | ⟨_, z⟩ | ⟨_, z⟩ <;> cases z
/-- a pinned object that is not told -/
theorem Rel.pinI (r : Rel K A HB env σ I H) {p : Addr} {o : HO} (h1 : HB p = some o) (h2 : A p = none) : I p = none := by
  cases z : I p with
  | none => rfl
  | some x =>
    rcases r.g.new p x z with y | y
    · rw [h2] at y; cases y
    · rw [h1] at y; cases y
/-- a pinned object that changes -/
theorem Rel.pinC (r : Rel K A HB env σ I H) (ho : nlS env) {p : Addr} {o o' : HO} (h1 : HB p = some o) (h2 : A p = none) : Rel K A (upd HB p o') env σ I (upd H p o') := by
  have hi := r.pinI h1 h2
  refine ⟨⟨r.g.i, fun a x e => ?_, fun a x e => ?_, fun a x e => ?_⟩, r.len, r.im, fun i l e => ?_, fun i d e => ?_, r.ap, fun i ks l e => ?_, r.apd, fun i d e => ?_, DkI.none fun i o d e => ?_⟩
  · by_cases y : a = p
    · subst y; rw [upd_same] at e ⊢; exact e
    · rw [upd_ne y] at e ⊢; exact r.g.h a x e
  · rw [upd_ne fun y => by rw [y, hi] at e; cases e]
    exact r.g.ih a x e
  · rcases r.g.new a x e with z | z
    · exact .inl z
    · refine .inr ?_
      rw [upd_ne fun y => by rw [y, h1] at z; cases z]
      exact z
  · obtain ⟨a, vs, k1, k2, k3, k4, k5⟩ := r.mu i l e
    have ne : ¬ a = p := fun y => by rw [y, h1] at k4; cases k4
    exact ⟨a, vs, k1, by rw [upd_ne ne]; exact k2, k3, by rw [upd_ne ne]; exact k4, k5⟩
  · rcases ho i _ e with z | ⟨_, z⟩ | ⟨_, z⟩ <;> cases z
  · rcases ho i _ e with z | ⟨_, z⟩ | ⟨_, z⟩ <;> cases z
  · rcases ho i _ e with z | ⟨_, z⟩ | ⟨_, z⟩ <;> cases z
  · rcases ho i _ e with z | ⟨_, z⟩ | ⟨_, z⟩ <;> cases z
/-- the lists that are pinned -/
def Pn (K : PySem.W.Frag) (A H0 HB I : Hp) (ps : List (Addr × List D)) : Prop := (ps.map (·.1)).Nodup ∧ ∀ p ∈ ps, A p.1 = none ∧ H0 p.1 = none ∧ ∃ vs, HB p.1 = some (.lst vs) ∧ RdA K I vs p.2
def TuS (K : PySem.W.Frag) (A H0 : Hp) (env : En) (σ : L2.St) (I H : Hp) (ps : List (Addr × List D)) : Prop := ∃ HB, Rel K A HB env σ I H ∧ Ex H0 HB ∧ Pn K A H0 HB I ps ∧ nlS env
variable {ps : List (Addr × List D)}
theorem Pn.mono (h : Pn K A H0 HB I ps) (e : Ex I I') : Pn K A H0 HB I' ps := ⟨h.1, fun p hp => by
  obtain ⟨a, b, vs, c, d⟩ := h.2 p hp
  exact ⟨a, b, vs, c, d.mono e⟩⟩
theorem TuS.grow (T : TuS K A H0 env σ I H ps) (g : Grow I H I' H') : TuS K A H0 env σ I' H' ps := by
  obtain ⟨HB, a, b, c, d⟩ := T
  exact ⟨HB, a.grow g, b, c.mono g.i, d⟩
theorem nlS.set (h : nlS env) {i : Nat} {s : Sl} (hs : s = .no ∨ (∃ d, s = .im d) ∨ ∃ l, s = .mu l) : nlS (env.set i s) := fun j t e => by
  rcases set_get e with ⟨_, z⟩ | ⟨_, z⟩
  · rw [z]; exact hs
  · exact h j t z
theorem TuS.set_im (T : TuS K A H0 env σ I H ps) {i : Nat} {v : V} {d : D} (h : Rd K I v d) : TuS K A H0 (env.set i (Sl.im d)) (σ.set i (some v)) I H ps := by
  obtain ⟨HB, a, b, c, n⟩ := T
  exact ⟨HB, a.set_im h, b, c, n.set (.inr (.inl ⟨_, rfl⟩))⟩
theorem TuS.ih (T : TuS K A H0 env σ I H ps) : Ex I H := by
  obtain ⟨HB, a, _⟩ := T
  exact a.g.ih
/-- what a pinned list holds -/
theorem TuS.get (T : TuS K A H0 env σ I H ps) {i : Nat} {a : Addr} {g : List D} (h : ps[i]? = some (a, g)) : ∃ vs, H a = some (.lst vs) ∧ RdA K I vs g := by
  obtain ⟨HB, r, b, c, n⟩ := T
  obtain ⟨_, _, vs, k1, k2⟩ := c.2 _ (List.mem_of_getElem? h)
  exact ⟨vs, r.g.h _ _ k1, k2⟩
/-- a pinned list that changes -/
theorem TuS.chg (T : TuS K A H0 env σ I H ps) {i : Nat} {a : Addr} {g g' : List D} {ws : List V} (h : ps[i]? = some (a, g)) (hw : RdA K I ws g') : TuS K A H0 env σ I (upd H a (.lst ws)) (ps.set i (a, g')) := by
  obtain ⟨HB, r, b, c, n⟩ := T
  obtain ⟨k0, k3, vs, k1, k2⟩ := c.2 _ (List.mem_of_getElem? h)
  have hi : i < ps.length := (List.getElem?_eq_some_iff.mp h).1
  have hpi : ps[i] = (a, g) := (List.getElem?_eq_some_iff.mp h).2
  have hm : (ps.set i (a, g')).map (·.1) = ps.map (·.1) := by
    rw [List.map_set]
    refine List.ext_getElem (by rw [List.length_set]) fun j h1 h2 => ?_
    rw [List.getElem_set]
    by_cases y : i = j
    · subst y
      rw [if_pos rfl, List.getElem_map, hpi]
    · rw [if_neg y]
  refine ⟨upd HB a (.lst ws), r.pinC n k1 k0, fun x o e => ?_, ⟨by rw [hm]; exact c.1, fun p hp => ?_⟩, n⟩
  · rw [upd_ne fun y => by rw [y, k3] at e; cases e]
    exact b x o e
  · obtain ⟨j, hj, e⟩ := List.mem_iff_getElem.mp hp
    rw [List.getElem_set] at e
    rw [List.length_set] at hj
    by_cases y : i = j
    · rw [if_pos y] at e
      rw [← e]
      exact ⟨k0, k3, ws, upd_same, hw⟩
    · rw [if_neg y] at e
      obtain ⟨q0, q3, us, q1, q2⟩ := c.2 p (by rw [← e]; exact List.getElem_mem hj)
      have ne : ¬ p.1 = a := fun z => by
        have n1 : (ps.map (·.1))[i]'(by rw [List.length_map]; exact hi) = (ps.map (·.1))[j]'(by rw [List.length_map]; exact hj) := by
          rw [List.getElem_map, List.getElem_map, hpi, e]
          exact z.symm
        exact y ((List.getElem_inj c.1).mp n1)
      exact ⟨q0, q3, us, by rw [upd_ne ne]; exact q1, q2⟩
/-- one list more -/
theorem TuS.push (T : TuS K A H0 env σ I H ps) {i : Nat} {l : List D} (he : env[i]? = some (Sl.mu l)) {ga p : Addr} (hs : σ[i]? = some (some (V.ref ga))) (g : Grow I H I' H') (h0 : H p = none) (hi : I' p = none) (hp : H' p = some (.lst [])) {gvs : List V} (hg : H ga = some (.lst gvs)) (hr : RdA K I gvs l) : TuS K A H0 (env.set i (.mu (l ++ [.adr p]))) σ I' (upd H' ga (.lst (gvs ++ [.ref p]))) (ps ++ [(p, [])]) := by
  obtain ⟨HB, r, b, c, n⟩ := T
  have ne : ¬ p = ga := fun y => by rw [y, hg] at h0; cases h0
  have r1 := (r.grow g).chg he hs ((hr.mono g.i).snoc (d := .adr p) .adr)
  have n1 : nlS (env.set i (.mu (l ++ [.adr p]))) := n.set (.inr (.inr ⟨_, rfl⟩))
  have hb : HB p = none := by
    cases z : HB p with
    | none => rfl
    | some o => rw [r.g.h p o z] at h0; cases h0
  have r2 := r1.pinN n1 (p := p) (o := .lst []) (by rw [upd_ne ne]; exact hp) hi fun j m e z => by
    have e2 : ∃ m', env[j]? = some (Sl.mu m') := by
      rcases set_get e with ⟨y, _⟩ | ⟨_, y⟩
      · exact ⟨l, by rw [← he, y]⟩
      · exact ⟨m, y⟩
    obtain ⟨m', e2⟩ := e2
    obtain ⟨x, us, k1, k2, _⟩ := r.mu j m' e2
    rw [k1] at z
    cases z
    rw [h0] at k2
    cases k2
  have hA : A p = none := by
    cases z : A p with
    | none => rfl
    | some o => rw [(r.grow g).g.i p o z] at hi; cases hi
  have hz : H0 p = none := by
    cases z : H0 p with
    | none => rfl
    | some o => rw [b p o z] at hb; cases hb
  refine ⟨_, r2, fun x o e => ?_, ⟨?_, fun q hq => ?_⟩, n1⟩
  · rw [upd_ne fun y => by rw [y, hz] at e; cases e]
    exact b x o e
  · rw [List.map_append]
    refine List.nodup_append.mpr ⟨c.1, by simp, fun x hx y hy => ?_⟩
    have hy : y = p := by simpa using hy
    obtain ⟨q, hq, rfl⟩ := List.mem_map.mp hx
    obtain ⟨_, _, us, q1, _⟩ := c.2 q hq
    exact fun z => by rw [z, hy, hb] at q1; cases q1
  · rcases List.mem_append.mp hq with z | z
    · obtain ⟨q0, q3, us, q1, q2⟩ := c.2 q z
      exact ⟨q0, q3, us, by rw [upd_ne fun y => by rw [y, hb] at q1; cases q1]; exact q1, q2.mono g.i⟩
    · rw [List.mem_singleton.mp z]
      exact ⟨hA, hz, [], upd_same, .nil⟩
theorem TuS.freeze (T : TuS K A H0 env σ I H ps) {i : Nat} {l : List D} (he : env[i]? = some (Sl.mu l)) : ∃ I', Ex I I' ∧ TuS K A H0 (env.set i (.im (.lst l))) σ I' H ps := by
  obtain ⟨HB, r, b, c, n⟩ := T
  obtain ⟨I', e, r'⟩ := r.freeze he
  exact ⟨I', e, HB, r', b, c.mono e, n.set (.inr (.inl ⟨_, rfl⟩))⟩
/-- an own list is handed back -/
theorem TuS.back (T : TuS K A H0 env σ I H ps) {j : Nat} {l : List D} (he : env[j]? = some (Sl.mu l)) : ∃ b vs, σ[j]? = some (some (V.ref b)) ∧ Grow A H0 I H ∧ H0 b = none ∧ I b = none ∧ H b = some (.lst vs) ∧ RdA K I vs l := by
  obtain ⟨HB, r, hb, c, n⟩ := T
  obtain ⟨x, us, z1, z2, z3, z4, z5⟩ := r.mu j l he
  have back : ∀ a, HB a = none → H0 a = none := fun a z => by
    cases q : H0 a with
    | none => rfl
    | some o => rw [hb a o q] at z; cases z
  exact ⟨x, us, z1, ⟨r.g.i, hb.trans r.g.h, r.g.ih, fun a o e => (r.g.new a o e).imp id (back a)⟩, back _ z4, z3, z2, z5⟩
end
theorem rdA_adr {K : PySem.W.Frag} {I : Hp} : ∀ {vs : List V} {ps : List (Addr × List D)}, RdA K I vs (ps.map fun p => D.adr p.1) → vs = ps.map fun p => V.ref p.1
  | _, [], h => by cases h; rfl
  | _, p :: ps, h => by
    cases h with
    | cons h q =>
      cases h
      rw [rdA_adr q]
      rfl
/-! ### dealt by turns -/
end BW
/-! BCore87: a def that deals a list into groups, and takes from the groups by turns. -/
namespace BW
open PySem PySem.Spec PyProof.Rows L2
open Evl (Ex Ex.refl Ex.trans Ex.new ex_rd ex_l ex_t)
abbrev adL (ps : List (Addr × List D)) : List D := ps.map fun p => D.adr p.1
section
variable {X : Cx} {W : WX} {A H0 : Hp} {st1 st3 : Stmt} {et ew eE eN : Expr} {x1 x2 x3 x4 x5 : Str} {c2 c3 : Nat} {p1 p2 p3 p4 p5 p6 p7 p8 p9 p10 p11 p12 p13 p14 p15 p16 p17 p18 p19 p20 p21 p22 p23 p24 p25 p26 p27 p28 p29 p30 p31 p32 p33 p34 : Pos}
end
end BW
/-! BCore88: an own desk whose history changes: made, lent, told a deed. -/
namespace BW
open PySem PySem.Spec PyProof.Rows L2
open Evl (Ex Ex.refl Ex.trans Ex.new ex_rd ex_l ex_t)
section
variable {K : PySem.W.Frag} {A H0 : Hp} {env : En} {σ : L2.St} {I H I' H' : Hp}
end
/-! ### lent -/
section
variable {X : Cx} {W : WX} {A H0 : Hp} {e : Expr} {f : F}
end
/-! ### a deed -/
def spDo (K : PySem.W.Frag) (md : D → D → R D) : Sp := fun vs H Q E => ∃ (x dx : Addr) (hv v : V) (h d : D) (I : Hp), vs = [.ref x, v] ∧ H x = some (.ins (CL K 1) dx [("history", hv)]) ∧ I x = none ∧ Ex I H ∧ Rd K I hv h ∧ Rd K I v d ∧
  match md h d with
  | .ok h' => ∀ hv' I' H', Grow I H I' H' → Rd K I' hv' h' → Q .non (upd H' x (.ins (CL K 1) dx [("history", hv')]))
  | .er c p => ∀ cls od I' H', Grow I H I' H' → ErrIs K c p cls od I' → E cls od H'
  | .no => False
structure CalDo (P : Program) (w : World) (K : PySem.W.Frag) (mg : Str → Option Value) (base : Heap) (y : Str) (k : Nat) (md : D → D → R D) : Prop where
  ex : ∃ (f : Addr) (fd : FuncData) (ps : List Str), FnOk P w K mg base (L2.CX P w) k f fd ps (spDo K md) ∧ Meth K (CL K 1) y f ∧ Binds K fd ps []
  cl : Cls K (CL K 1)
section
variable {X : Cx} {W : WX} {A H0 : Hp} {fr : Bool} {e : Expr} {f : F} {md : D → D → R D} {pos ap cp : Pos} {j k : Nat} {y : Str} {pl : Sem Bool}
/-- `if desk.do(..) is not None or .. :` -/
structure IfOr (X : Cx) (W : WX) (A H0 : Hp) (fr : Bool) (pos : Pos) (es : List Expr) (x z : List Stmt) (g : G) : Prop where
  ex : ∃ tw tx tz, PW X (.BoolOp .Or es pos) tw ∧ PSs X x tx ∧ PSs X z tz ∧ ∀ Z σ H, rdS X.K W A H0 fr g Z σ H → tIfS tw tx tz Z σ H
end
end BW
/-! BCore89: Desk.do; an own desk that is made. -/
namespace BW
open PySem PySem.Spec PyProof.Rows L2
open Evl (Ex Ex.refl Ex.trans Ex.new ex_rd ex_l ex_t)
section
variable {X : Cx} {W : WX} {A H0 : Hp} {s1 s3 s4 : Stmt} {ei : Expr} {md : List D → R D} {p1 p2 p3 p4 p5 p6 p7 p8 p9 p10 : Pos}
end
section
variable {P : Program} {w : World} {K : PySem.W.Frag} {mg : Str → Option Value} {base : Heap}
/-! ### made -/
def spDkO (K : PySem.W.Frag) (md : D → R D) : Sp := fun vs H Q E => ∃ (x dx : Addr) (v : V) (d : D) (H1 I : Hp), vs = [.ref x, v] ∧ H1 x = none ∧ H1 dx = none ∧ dx ≠ x ∧ H = upd (upd H1 dx (.own x)) x (.ins (CL K 1) dx []) ∧ Ex I H1 ∧ Rd K I v d ∧
  match md d with
  | .ok h => ∀ u I' H', Grow I H1 I' H' → H' x = some (.ins (CL K 1) dx [("history", u)]) → I' x = none → Rd K I' u h → Q .non H'
  | .er c p => ∀ cls od I' H', Grow I H1 I' H' → ErrIs K c p cls od I' → E cls od H'
  | .no => False
end
structure DeskCO (P : Program) (w : World) (K : PySem.W.Frag) (mg : Str → Option Value) (base : Heap) (k : Nat) (md : D → R D) : Prop where
  ex : ∃ (f : Addr) (fd : FuncData), Mk K (CL K 1) f ∧ FnOk P w K mg base (L2.CX P w) k f fd ["self", "text"] (spDkO K md) ∧ mg "Desk" = some (.ref (CL K 1)) ∧ Binds K fd ["self", "text"] []
section
variable {X : Cx} {W : WX} {A H0 : Hp} {fr : Bool} {e : Expr} {fe : F} {p pos pos2 py : Pos} {j k : Nat} {md : D → R D}
end
end BW
/-! BCore90: a def that tells its desk a deed and hands back what came of it; tests with such a call. -/
namespace BW
open PySem PySem.Spec PyProof.Rows L2
open Evl (Ex Ex.refl Ex.trans Ex.new ex_rd ex_l ex_t)
section
variable {K : PySem.W.Frag} {A H0 : Hp} {env : En} {σ : L2.St} {I H : Hp}
end
def spDoW (K : PySem.W.Frag) (md : D → D → R (D × D)) : Sp := fun vs H Q E => ∃ (x dx : Addr) (hv v : V) (h d : D) (I : Hp), vs = [.ref x, v] ∧ H x = some (.ins (CL K 1) dx [("history", hv)]) ∧ I x = none ∧ Ex I H ∧ Rd K I hv h ∧ Rd K I v d ∧
  match md h d with
  | .ok (r, h') => ∀ u dz hv' I' H', Grow I H I' H' → Rd K I' hv' h' → Rd K I' u r → Q u (upd H' x (.ins (CL K 1) dz [("history", hv')]))
  | _ => False
section
variable {P : Program} {w : World} {K : PySem.W.Frag} {mg : Str → Option Value} {base : Heap}
end
structure CalDW (P : Program) (w : World) (K : PySem.W.Frag) (mg : Str → Option Value) (base : Heap) (x : Str) (k : Nat) (md : D → D → R (D × D)) : Prop where
  ex : ∃ (f : Addr) (fd : FuncData) (ps : List Str), FnOk P w K mg base (L2.CX P w) k f fd ps (spDoW K md) ∧ mg x = some (.ref f) ∧ PySem.W.keepIn K (.ref f) = true ∧ Binds K fd ps []
/-! ### such a call, and what it is compared with -/
section
variable {X : Cx} {W : WX} {A H0 : Hp} {fr : Bool} {e e2 : Expr} {f f2 : F} {md : D → D → R (D × D)} {pos pd px cp : Pos} {j k : Nat} {x dn : Str}
/-- a test whose value and effect a function of the environment tells -/
structure TstW (X : Cx) (W : WX) (A H0 : Hp) (fr : Bool) (c : Expr) (gc : G → G → G) : Prop where
  ex : ∃ tc, PT X c tc ∧ ∀ gT gF Z σ H (Q : Bool → Hp → Prop), (∀ H1, rdS X.K W A H0 fr gT Z σ H1 → Q true H1) → (∀ H1, rdS X.K W A H0 fr gF Z σ H1 → Q false H1) → rdS X.K W A H0 fr (gc gT gF) Z σ H → tc σ H Q
/-- `c or c or ..` of such tests -/
structure TsOr (X : Cx) (W : WX) (A H0 : Hp) (fr : Bool) (es : List Expr) (pos : Pos) (gc : G → G → G) : Prop where
  ex : ∃ tw, PW X (.BoolOp .Or es pos) tw ∧ ∀ gT gF Z σ H (Q : Bool → Hp → Prop), (∀ H1, rdS X.K W A H0 fr gT Z σ H1 → Q true H1) → (∀ H1, rdS X.K W A H0 fr gF Z σ H1 → Q false H1) → rdS X.K W A H0 fr (gc gT gF) Z σ H → tw σ H Q
end
/-! ### a call without arguments -/
section
variable {X : Cx} {W : WX} {A H0 : Hp} {pos p : Pos} {x : Str} {j k : Nat} {m : List D → R D}
end
end BW
/-! BCore91: two lists within a list of one's own, changed along a way back (exchanged). -/
namespace BW
open PySem PySem.Spec PyProof.Rows L2
open Evl (Ex Ex.refl Ex.trans Ex.new ex_rd ex_l ex_t)
section
variable {K : PySem.W.Frag} {A H0 : Hp} {env : En} {σ : L2.St} {I H : Hp} {ps : List (Addr × List D)}
/-- told, list and lists -/
theorem TuS.told (T : TuS K A H0 env σ I H ps) {j : Nat} (he : env[j]? = some (.mu (adL ps))) : ∃ v I', σ[j]? = some (some v) ∧ Grow A H0 I' H ∧ Ex I I' ∧ Rd K I' v (.lst (ps.map fun p => D.lst p.2)) := by
  obtain ⟨HB, r, hb, c, n⟩ := T
  obtain ⟨x, us, z1, z2, z3, z4, z5⟩ := r.mu j _ he
  have back : ∀ a, HB a = none → H0 a = none := fun a z => by
    cases q : H0 a with
    | none => rfl
    | some o => rw [hb a o q] at z; cases z
  -- the pinned lists are told one by one
  have key : ∀ (qs : List (Addr × List D)), (∀ p ∈ qs, p ∈ ps) → ∃ I2, Ex I I2 ∧ Ex I2 H ∧ (∀ a o, I2 a = some o → I a = some o ∨ H0 a = none ∧ ∃ p ∈ ps, a = p.1) ∧ RdA K I2 (qs.map fun p => V.ref p.1) (qs.map fun p => D.lst p.2) := by
    intro qs
    induction qs with
    | nil => exact fun _ => ⟨I, Ex.refl _, r.g.ih, fun a o h => .inl h, .nil⟩
    | cons p qs ih =>
      intro hq
      obtain ⟨I2, e1, e2, e3, e4⟩ := ih fun q hq' => hq q (List.mem_cons_of_mem _ hq')
      obtain ⟨k0, k3, vs, k1, k2⟩ := c.2 p (hq p List.mem_cons_self)
      have hp := r.g.h _ _ k1
      by_cases ha : I2 p.1 = none
      · have en : Ex I2 (upd I2 p.1 (.lst vs)) := Ex.new ha
        refine ⟨upd I2 p.1 (.lst vs), e1.trans en, fun a o h => ?_, fun a o h => ?_, .cons (.lst upd_same ((k2.mono e1).mono en)) (e4.mono en)⟩
        · by_cases y : a = p.1
          · rw [y, upd_same] at h; rw [y, ← h]; exact hp
          · rw [upd_ne y] at h; exact e2 a o h
        · by_cases y : a = p.1
          · exact .inr ⟨by rw [y]; exact k3, p, hq p List.mem_cons_self, y⟩
          · rw [upd_ne y] at h; exact e3 a o h
      · refine ⟨I2, e1, e2, e3, .cons ?_ e4⟩
        cases ho : I2 p.1 with
        | none => exact absurd ho ha
        | some o =>
          have := e2 _ _ ho
          rw [hp] at this
          cases this
          exact .lst ho (k2.mono e1)
  obtain ⟨I2, e1, e2, e3, e4⟩ := key ps fun p h => h
  have hx : I2 x = none := by
    cases h : I2 x with
    | none => rfl
    | some o =>
      rcases e3 x o h with y | ⟨_, p, hp, y⟩
      · rw [z3] at y; cases y
      · obtain ⟨_, _, vs, k1, _⟩ := c.2 p hp
        rw [y] at z4
        rw [z4] at k1
        cases k1
  have gv := rdA_adr z5
  subst gv
  have en : Ex I2 (upd I2 x (.lst (ps.map fun p => V.ref p.1))) := Ex.new hx
  refine ⟨.ref x, upd I2 x (.lst (ps.map fun p => V.ref p.1)), z1, ⟨(r.g.i.trans e1).trans en, hb.trans r.g.h, fun a o h => ?_, fun a o h => ?_⟩, e1.trans en, .lst upd_same (e4.mono en)⟩
  · by_cases y : a = x
    · rw [y, upd_same] at h; rw [y, ← h]; exact z2
    · rw [upd_ne y] at h; exact e2 a o h
  · by_cases y : a = x
    · rw [y]; exact .inr (back _ z4)
    · rw [upd_ne y] at h
      rcases e3 a o h with w | ⟨w, _⟩
      · exact (r.g.new a o w).imp id (back a)
      · exact .inr w
end
/-! ### exchanged -/
section
variable {X : Cx} {W : WX} {A H0 : Hp} {e0 e1 ew et : Expr} {st3 st4 st5 : Stmt} {p1 p2 p3 p4 p5 p6 p7 p8 p9 p10 p11 p12 p13 p14 p15 p16 p17 p18 p19 p20 p21 p22 : Pos}
end
end BW
/-! BCore92: an own tuple whose lists are changed, one behind the other; it is forgotten behind that. -/
namespace BW
open PySem PySem.Spec PyProof.Rows L2
open Evl (Ex Ex.refl Ex.trans Ex.new ex_rd ex_l ex_t)
section
variable {K : PySem.W.Frag} {W : WX} {A H0 : Hp} {fr : Bool} {Z : Ends} {σ : L2.St} {H : Hp} {i : Nat} {fa : F} {g : G}
end
section
variable {X : Cx} {W : WX} {A H0 : Hp} {fr : Bool} {a : Expr} {fa : F} {g : G} {pos pos2 : Pos} {rest : List Stmt}
end
end BW
/-! BCore93: defs that hand back four values, the second a new list; such a list held by a name behind an unpacking. -/
namespace BW
open PySem PySem.Spec PyProof.Rows L2
open Evl (Ex Ex.refl Ex.trans Ex.new ex_rd ex_l ex_t)
def PostQ4 (K : PySem.W.Frag) (W : WX) (σ : L2.St) (I H : Hp) (r : R D) (Q : VK) : Prop := match r with
  | .ok (.tup [x, .lst ds, _, _]) => (match x.sc with
    | some w => ∀ t ob p vs y z I' H', Grow I H I' H' → ob.dict = none → H t = none → I' t = none → H' t = some (.frz ob (.tup [w, .ref p, y, z])) → H p = none → I' p = none → H' p = some (.lst vs) → RdA K I' vs ds → Q (.ref t) H'
    | none => False)
  | .er c p => ∀ cls od I' H', Grow I H I' H' → ErrIs K c p cls od I' → W cls od σ H'
  | _ => False
theorem D.q4_or (d : D) : (∃ x w l a b, d = .tup [x, .lst l, a, b] ∧ x.sc = some w) ∨ (∀ K W σ I H Q, ¬ PostQ4 K W σ I H (.ok d) Q) := by
  by_cases h : ∃ x l a b, d = .tup [x, .lst l, a, b]
  · obtain ⟨x, l, a, b, rfl⟩ := h
    cases hs : x.sc with
    | some w => exact .inl ⟨x, w, l, a, b, rfl, hs⟩
    | none =>
      refine .inr fun K W σ I H Q z => ?_
      have z1 : (match x.sc with
        | some w => ∀ t ob p vs y z I' H', Grow I H I' H' → ob.dict = none → H t = none → I' t = none → H' t = some (.frz ob (.tup [w, .ref p, y, z])) → H p = none → I' p = none → H' p = some (.lst vs) → RdA K I' vs l → Q (.ref t) H'
        | none => False) := z
      rw [hs] at z1
      exact z1
  · refine .inr fun K W σ I H Q z => ?_
    unfold PostQ4 at z
    split at z
    · rename_i x ds a b e
      have e' : d = .tup [x, .lst ds, a, b] := by injection e
      exact h ⟨_, _, _, _, e'⟩
    · rename_i e
      cases e
    · exact z
theorem PostQ4.app {K : PySem.W.Frag} {W : WX} {σ : L2.St} {I H : Hp} {x a b : D} {w : V} {l : List D} {Q : VK} (hs : x.sc = some w) (h : PostQ4 K W σ I H (.ok (.tup [x, .lst l, a, b])) Q) :
    ∀ t ob p vs y z I' H', Grow I H I' H' → ob.dict = none → H t = none → I' t = none → H' t = some (.frz ob (.tup [w, .ref p, y, z])) → H p = none → I' p = none → H' p = some (.lst vs) → RdA K I' vs l → Q (.ref t) H' := by
  have z1 : (match x.sc with
    | some w => ∀ t ob p vs y z I' H', Grow I H I' H' → ob.dict = none → H t = none → I' t = none → H' t = some (.frz ob (.tup [w, .ref p, y, z])) → H p = none → I' p = none → H' p = some (.lst vs) → RdA K I' vs l → Q (.ref t) H'
    | none => False) := h
  rw [hs] at z1
  exact z1
theorem PostQ4.mk {K : PySem.W.Frag} {W : WX} {σ : L2.St} {I H : Hp} {x a b : D} {w : V} {l : List D} {Q : VK} (hs : x.sc = some w) (h : ∀ t ob p vs y z I' H', Grow I H I' H' → ob.dict = none → H t = none → I' t = none → H' t = some (.frz ob (.tup [w, .ref p, y, z])) → H p = none → I' p = none → H' p = some (.lst vs) → RdA K I' vs l → Q (.ref t) H') : PostQ4 K W σ I H (.ok (.tup [x, .lst l, a, b])) Q := by
  show (match x.sc with
    | some w => ∀ t ob p vs y z I' H', Grow I H I' H' → ob.dict = none → H t = none → I' t = none → H' t = some (.frz ob (.tup [w, .ref p, y, z])) → H p = none → I' p = none → H' p = some (.lst vs) → RdA K I' vs l → Q (.ref t) H'
    | none => False)
  rw [hs]
  exact h
theorem PostQ.imp {K : PySem.W.Frag} {W : WX} {σ : L2.St} {I H : Hp} {r : R D} {Q Q' : VK} (h : PostQ K W σ I H r Q) (k : ∀ v H', Q v H' → Q' v H') : PostQ K W σ I H r Q' := by
  cases r with
  | er c p => exact h
  | no => exact h
  | ok d =>
    rcases D.pr_or d with ⟨x, w, l, rfl, hs⟩ | hd
    · exact PostQ.mk hs fun t ob p vs I' H' g ho h0 hi h1 h2 h3 h4 h5 => k _ _ (PostQ.app hs h t ob p vs I' H' g ho h0 hi h1 h2 h3 h4 h5)
    · exact absurd h (hd _ _ _ _ _ _)
theorem PostQ4.imp {K : PySem.W.Frag} {W : WX} {σ : L2.St} {I H : Hp} {r : R D} {Q Q' : VK} (h : PostQ4 K W σ I H r Q) (k : ∀ v H', Q v H' → Q' v H') : PostQ4 K W σ I H r Q' := by
  cases r with
  | er c p => exact h
  | no => exact h
  | ok d =>
    rcases D.q4_or d with ⟨x, w, l, a, b, rfl, hs⟩ | hd
    · exact PostQ4.mk hs fun t ob p vs y z I' H' g ho h0 hi h1 h2 h3 h4 h5 => k _ _ (PostQ4.app hs h t ob p vs y z I' H' g ho h0 hi h1 h2 h3 h4 h5)
    · exact absurd h (hd _ _ _ _ _ _)
section
variable {X : Cx} {W : WX} {A H0 : Hp} {c e ey ez : Expr} {f fc fe fy fz : F} {pos pos' : Pos}
end
/-! ### defs of this kind -/
def spQ4 (K : PySem.W.Frag) (fl : List Bool) (m : List D → R D) : Sp := fun vs H Q E => ∃ ds I, Ex I H ∧ ArgsOk K I H fl vs ds ∧ PostQ4 K (fun cls od _ H' => E cls od H') [] I H (m ds) Q
section
variable {P : Program} {w : World} {K : PySem.W.Frag} {mg : Str → Option Value} {base : Heap}
structure CalQ4 (P : Program) (w : World) (K : PySem.W.Frag) (mg : Str → Option Value) (base : Heap) (x : Str) (k : Nat) (fl : List Bool) (m : List D → R D) : Prop where
  ex : ∃ (f : Addr) (fd : FuncData) (ps : List Str), FnOk P w K mg base (L2.CX P w) k f fd ps (spQ4 K fl m) ∧ mg x = some (.ref f) ∧ PySem.W.keepIn K (.ref f) = true ∧ Binds K fd ps []
end
section
variable {X : Cx} {W : WX} {A H0 : Hp} {e : Expr} {pos : Pos} {x : Str} {j k : Nat} {fl : List Bool} {m : List D → R D} {es : List Expr} {fs : FA} {p : Pos}
end
/-! ### unpacked: the new list is held by a name -/
section
variable {K : PySem.W.Frag} {W : WX} {A H0 : Hp} {fr : Bool} {Z : Ends} {σ : L2.St} {H : Hp} {a b c d : Nat} {f : F}
end
section
variable {X : Cx} {W : WX} {A H0 : Hp} {fr : Bool} {e : Expr} {f : F} {pos : Pos}
end
end BW
/-! BCore94: an own value lent to two statements: x = e1; y = e2, where what is told to y holds no list and x is forgotten. -/
namespace BW
open PySem PySem.Spec PyProof.Rows L2
open Evl (Ex Ex.refl Ex.trans Ex.new ex_rd ex_l ex_t)
section
variable {K : PySem.W.Frag} {A H0 : Hp} {env : En} {σ : L2.St} {I H : Hp}
end
section
variable {X : Cx} {W : WX} {A H0 : Hp} {fr : Bool} {e1 e2 : Expr} {f1 f2 : F} {pos pos2 : Pos} {rest : List Stmt} {g : G}
end
end BW
/-! BCore95: a comprehension of new lists, each at a place of its own. -/
namespace BW
open PySem PySem.Spec PyProof.Rows L2
open Evl (Ex Ex.refl Ex.trans Ex.new ex_rd ex_l ex_t)
section
variable {X : Cx} {W : WX} {A H0 : Hp} {tg : Expr}
end
end BW
/-! BCore96: lists within a list of one's own, made by a comprehension: told to expressions, changed one by one. -/
namespace BW
open PySem PySem.Spec PyProof.Rows L2
open Evl (Ex Ex.refl Ex.trans Ex.new ex_rd ex_l ex_t)
section
variable {K : PySem.W.Frag} {A H0 HB I H I' H' : Hp} {env : En} {σ : L2.St} {ps : List (Addr × List D)}
theorem TuS.sub (T : TuS K A H0 env σ I H ps) {qs : List (Addr × List D)} (hn : (qs.map (·.1)).Nodup) (hs : ∀ p ∈ qs, p ∈ ps) : TuS K A H0 env σ I H qs := by
  obtain ⟨HB, r, b, c, n⟩ := T
  exact ⟨HB, r, b, ⟨hn, fun p hp => c.2 p (hs p hp)⟩, n⟩
/-- one new list more is pinned -/
theorem TuS.pin (T : TuS K A H0 env σ I H ps) (g : Grow I H I' H') {p : Addr} {us : List V} {l : List D} (h0 : H p = none) (hi : I' p = none) (hp : H' p = some (.lst us)) (hr : RdA K I' us l) : TuS K A H0 env σ I' H' ((p, l) :: ps) := by
  obtain ⟨HB, r, b, c, n⟩ := T
  have hb : HB p = none := by
    cases z : HB p with
    | none => rfl
    | some o => rw [r.g.h p o z] at h0; cases h0
  have r2 := (r.grow g).pinN n hp hi (fun j m e z => by
    obtain ⟨x, us, k1, k2, _⟩ := r.mu j m e
    rw [k1] at z
    cases z
    rw [h0] at k2
    cases k2)
  have hA : A p = none := by
    cases z : A p with
    | none => rfl
    | some o => rw [(r.grow g).g.i p o z] at hi; cases hi
  have hz : H0 p = none := by
    cases z : H0 p with
    | none => rfl
    | some o => rw [b p o z] at hb; cases hb
  have np : ∀ q ∈ ps, q.1 ≠ p := fun q hq z => by
    obtain ⟨_, _, vs, k1, _⟩ := c.2 q hq
    rw [z, hb] at k1
    cases k1
  refine ⟨_, r2, fun x o e => ?_, ⟨?_, fun q hq => ?_⟩, n⟩
  · rw [upd_ne fun y => by rw [y, hz] at e; cases e]
    exact b x o e
  · show (p :: ps.map (·.1)).Nodup
    exact List.nodup_cons.mpr ⟨fun z => by
      obtain ⟨q, hq, e⟩ := List.mem_map.mp z
      exact np q hq e, c.1⟩
  · rcases List.mem_cons.mp hq with z | z
    · rw [z]; exact ⟨hA, hz, us, upd_same, hr⟩
    · obtain ⟨k0, k3, vs, k1, k2⟩ := c.2 q z
      exact ⟨k0, k3, vs, by rw [upd_ne (np q z)]; exact k1, k2.mono g.i⟩
/-- told, list and lists -/
theorem TuS.told2 (T : TuS K A H0 env σ I H ps) {j : Nat} (he : env[j]? = some (.mu (adL ps))) : ∃ v I', σ[j]? = some (some v) ∧ Grow A H0 I' H ∧ Ex I I' ∧ (∀ a o, I' a = some o → I a = some o ∨ ∃ us, o = .lst us) ∧ Rd K I' v (.lst (ps.map fun p => D.lst p.2)) := by
  obtain ⟨HB, r, hb, c, n⟩ := T
  obtain ⟨x, us, z1, z2, z3, z4, z5⟩ := r.mu j _ he
  have back : ∀ a, HB a = none → H0 a = none := fun a z => by
    cases q : H0 a with
    | none => rfl
    | some o => rw [hb a o q] at z; cases z
  -- the pinned lists are told one by one
  have key : ∀ (qs : List (Addr × List D)), (∀ p ∈ qs, p ∈ ps) → ∃ I2, Ex I I2 ∧ Ex I2 H ∧ (∀ a o, I2 a = some o → I a = some o ∨ (H0 a = none ∧ ∃ p ∈ ps, a = p.1) ∧ ∃ us, o = .lst us) ∧ RdA K I2 (qs.map fun p => V.ref p.1) (qs.map fun p => D.lst p.2) := by
    intro qs
    induction qs with
    | nil => exact fun _ => ⟨I, Ex.refl _, r.g.ih, fun a o h => .inl h, .nil⟩
    | cons p qs ih =>
      intro hq
      obtain ⟨I2, e1, e2, e3, e4⟩ := ih fun q hq' => hq q (List.mem_cons_of_mem _ hq')
      obtain ⟨k0, k3, vs, k1, k2⟩ := c.2 p (hq p List.mem_cons_self)
      have hp := r.g.h _ _ k1
      by_cases ha : I2 p.1 = none
      · have en : Ex I2 (upd I2 p.1 (.lst vs)) := Ex.new ha
        refine ⟨upd I2 p.1 (.lst vs), e1.trans en, fun a o h => ?_, fun a o h => ?_, .cons (.lst upd_same ((k2.mono e1).mono en)) (e4.mono en)⟩
        · by_cases y : a = p.1
          · rw [y, upd_same] at h; rw [y, ← h]; exact hp
          · rw [upd_ne y] at h; exact e2 a o h
        · by_cases y : a = p.1
          · exact .inr ⟨⟨by rw [y]; exact k3, p, hq p List.mem_cons_self, y⟩, by rw [y, upd_same] at h; exact ⟨vs, (Option.some.inj h).symm⟩⟩
          · rw [upd_ne y] at h; exact e3 a o h
      · refine ⟨I2, e1, e2, e3, .cons ?_ e4⟩
        cases ho : I2 p.1 with
        | none => exact absurd ho ha
        | some o =>
          have := e2 _ _ ho
          rw [hp] at this
          cases this
          exact .lst ho (k2.mono e1)
  obtain ⟨I2, e1, e2, e3, e4⟩ := key ps fun p h => h
  have hx : I2 x = none := by
    cases h : I2 x with
    | none => rfl
    | some o =>
      rcases e3 x o h with y | ⟨⟨_, p, hp, y⟩, _⟩
      · rw [z3] at y; cases y
      · obtain ⟨_, _, vs, k1, _⟩ := c.2 p hp
        rw [y] at z4
        rw [z4] at k1
        cases k1
  have gv := rdA_adr z5
  subst gv
  have en : Ex I2 (upd I2 x (.lst (ps.map fun p => V.ref p.1))) := Ex.new hx
  refine ⟨.ref x, upd I2 x (.lst (ps.map fun p => V.ref p.1)), z1, ⟨(r.g.i.trans e1).trans en, hb.trans r.g.h, fun a o h => ?_, fun a o h => ?_⟩, e1.trans en, fun a o h => ?_, .lst upd_same (e4.mono en)⟩
  · by_cases y : a = x
    · rw [y, upd_same] at h; rw [y, ← h]; exact z2
    · rw [upd_ne y] at h; exact e2 a o h
  · by_cases y : a = x
    · rw [y]; exact .inr (back _ z4)
    · rw [upd_ne y] at h
      rcases e3 a o h with w | ⟨⟨w, _⟩, _⟩
      · exact (r.g.new a o w).imp id (back a)
      · exact .inr w
  · by_cases y : a = x
    · rw [y, upd_same] at h; exact .inr ⟨_, (Option.some.inj h).symm⟩
    · rw [upd_ne y] at h
      exact (e3 a o h).imp id (·.2)
/-- told to an expression that tells no list -/
theorem TuS.lend {X : Cx} {W : WX} (T : TuS X.K A H0 env σ I H ps) {j : Nat} (he : env[j]? = some (.mu (adL ps))) (hj : ∀ (i : Nat) (l : List D), env[i]? = some (Sl.mu l) → i = j) {f : F} {d : D} (hf : f (env.set j (.im (.lst (ps.map fun p => D.lst p.2)))) = .ok d) (hl : lf d = true) {Q : VK} (q : ∀ v I' H', Grow I H I' H' → Rd X.K I' v d → Q v H') : tEa X W f σ H Q := by
  obtain ⟨v0, I1, z1, z2, z3, z5, z4⟩ := T.told2 he
  have Tn := T.ih
  obtain ⟨HB, r, b, c, n⟩ := T
  have hjl : j < env.length := (List.getElem?_eq_some_iff.mp he).1
  have nm : ∀ (i : Nat) (l : List D), (env.set j (.im (.lst (ps.map fun p => D.lst p.2))))[i]? ≠ some (Sl.mu l) := fun i l e => by
    rcases set_get e with ⟨_, z⟩ | ⟨y, z⟩
    · cases z
    · exact y (hj i l z).symm
  have nl := n.set (i := j) (s := .im (.lst (ps.map fun p => D.lst p.2))) (.inr (.inl ⟨_, rfl⟩))
  have bad : ∀ {i : Nat} {s : Sl} {P : Prop}, (env.set j (.im (.lst (ps.map fun p => D.lst p.2))))[i]? = some s → (s ≠ .no) → (∀ d, s ≠ .im d) → (∀ l, s ≠ .mu l) → P := fun e h1 h2 h3 => by
    rcases nl _ _ e with z | ⟨_, z⟩ | ⟨_, z⟩
    · exact absurd z h1
    · exact absurd z (h2 _)
    · exact absurd z (h3 _)
  have r1 : Rel X.K A H0 (env.set j (.im (.lst (ps.map fun p => D.lst p.2)))) σ I1 H := by
    refine ⟨z2, by rw [List.length_set]; exact r.len, fun i e hi => ?_, fun i l hi => absurd hi (nm i l), fun i e hi => bad hi (fun z => nomatch z) (fun _ z => nomatch z) (fun _ z => nomatch z), fun i k l m a q1 _ _ _ => absurd q1 (nm i l), fun i ks l hi => bad hi (fun z => nomatch z) (fun _ z => nomatch z) (fun _ z => nomatch z), fun i k ks ls l m a q1 _ _ _ => bad q1 (fun z => nomatch z) (fun _ z => nomatch z) (fun _ z => nomatch z), fun i d hi => bad hi (fun z => nomatch z) (fun _ z => nomatch z) (fun _ z => nomatch z), DkI.none fun i o d hi => bad hi (fun z => nomatch z) (fun _ z => nomatch z) (fun _ z => nomatch z)⟩
    rcases set_get hi with ⟨y, z⟩ | ⟨_, z⟩
    · cases z
      rw [← y]
      exact ⟨v0, z1, z4⟩
    · obtain ⟨u, k1, k2⟩ := r.im i e z
      exact ⟨u, k1, k2.mono z3⟩
  refine ⟨A, H0, _, I1, r1, ?_⟩
  rw [hf]
  exact lend_post (W := W) (σ := σ) (r := R.ok d) Tn z3 z2.ih z5 (by
    show PostE X.K W σ I H (if lf d then R.ok d else R.no) Q
    rw [if_pos hl]
    exact q)
end
end BW
/-! BCore97: rows that change one of the lists within a list of one's own, or that list. -/
namespace BW
open PySem PySem.Spec PyProof.Rows L2
open Evl (Ex Ex.refl Ex.trans Ex.new ex_rd ex_l ex_t)
section
variable {X : Cx} {W : WX} {A H0 : Hp} {fr : Bool} {tg : Expr} {pos : Pos}
end
section
variable {X : Cx} {W : WX} {A H0 : Hp} {env : En} {σ : L2.St} {I H : Hp} {ps : List (Addr × List D)} (T : TuS X.K A H0 env σ I H ps) (e3 : env[3]? = some (.mu (adL ps))) (hj : ∀ (i : Nat) (l : List D), env[i]? = some (Sl.mu l) → i = 3)
include T e3 hj
variable {i : Nat} {a : Addr} {l m : List D} (e4 : env[4]? = some (.im (.int (i : Int)))) (hl : ps[i]? = some (a, l))
include e4 hl
end
section
variable {X : Cx} {W : WX} {A H0 : Hp} {env : En} {σ : L2.St} {I H : Hp} {ps : List (Addr × List D)} (T : TuS X.K A H0 env σ I H ps) (e3 : env[3]? = some (.mu (adL ps))) (hj : ∀ (i : Nat) (l : List D), env[i]? = some (Sl.mu l) → i = 3)
include T e3
include hj
end
end BW
/-! BCore98: a def that copies lists and spoils them in one of seven ways. -/
namespace BW
open PySem PySem.Spec PyProof.Rows L2
open Evl (Ex Ex.refl Ex.trans Ex.new ex_rd ex_l ex_t)
section
variable {X : Cx} {W : WX} {A H0 : Hp} {st1 st2 st3 q0 q1 q2 q3 q4 q5 q6 : Stmt} {t0 t1 t2 t3 t4 t5 er : Expr} {p0 p1 p2 p3 p4 p5 p6 : Pos}
end
end BW
/-! BCore99: dicts keyed by pairs of ints, their values ints: told by their pairs; changing ones, and whole ones. -/
namespace BW
open PySem PySem.Spec PyProof.Rows L2
open Evl (Ex Ex.refl Ex.trans Ex.new ex_rd ex_l ex_t)
abbrev PK := List ((Int × Int) × Int)
def pkK (p : Int × Int) : NestedKey := .tup [.num p.1, .num p.2]
def pkD (p : Int × Int) : D := .tup [.int p.1, .int p.2]
def pkY (p : Int × Int) : PyData := .tuple [.int p.1, .int p.2]
def kP : NestedKey → Int × Int
  | .tup [.num p, .num q] => (p, q)
  | _ => (0, 0)
def vP : Value → Int
  | .int n _ => n
  | _ => 0
def enP (x : NestedKey × Addr × Value) : (Int × Int) × Int := (kP x.1, vP x.2.2)
def pkOf (xs : MX) : PK := xs.map enP
/-- what such an entry is -/
def EnP (K : PySem.W.Frag) (I : Hp) (x : NestedKey × Addr × Value) : Prop := ∃ p n t, x.1 = pkK p ∧ Rd K I (.ref x.2.1) (pkD p) ∧ x.2.2 = Value.int n t
def valP (dk dv : D) : Prop := ∃ p n, dk = pkD p ∧ dv = .int n
theorem kP_pk {p : Int × Int} : kP (pkK p) = p := rfl
theorem pkK_inj {p q : Int × Int} (h : pkK p = pkK q) : p = q := by
  have := congrArg kP h
  rwa [kP_pk, kP_pk] at this
theorem nk_pk {p : Int × Int} : nk (pkD p) = some (pkK p) := rfl
theorem nk8_pk {p : Int × Int} : nk8 (pkD p) = some (pkK p) := by
  unfold nk8
  rw [nk_pk]
  exact if_pos (by simp [pkK, NestedKey.depth, NestedKey.depthAll])
theorem EnP.mono {K : PySem.W.Frag} {I I' : Hp} {x : NestedKey × Addr × Value} (h : EnP K I x) (e : Ex I I') : EnP K I' x := by
  obtain ⟨p, n, t, h1, h2, h3⟩ := h
  exact ⟨p, n, t, h1, h2.mono e, h3⟩
theorem EnP.fst {K : PySem.W.Frag} {I : Hp} {x : NestedKey × Addr × Value} (h : EnP K I x) : x.1 = pkK (enP x).1 := by
  obtain ⟨p, n, t, h1, h2, h3⟩ := h
  rw [h1]
  show pkK p = pkK (kP x.1)
  rw [h1, kP_pk]
/-! ### tables of pairs -/
def lkZ (l : PK) (p : Int × Int) : Option Int := (l.find? fun x => decide (x.1 = p)).map (·.2)
def putZ (l : PK) (p : Int × Int) (n : Int) : PK := if (lkZ l p).isSome then l.map (fun x => if x.1 = p then (x.1, n) else x) else l ++ [(p, n)]
def dropZ (l : PK) (p : Int × Int) : PK := l.filter fun x => decide (x.1 ≠ p)
/-- the least of the keys -/
def minZ (l : PK) : Option (Int × Int) := (l[argBest (fun i j => PySem.W.dataLt ((l.map fun x => pkY x.1).getD i .none) ((l.map fun x => pkY x.1).getD j .none)) (l.length - 1)]?).map (·.1)
section
variable {K : PySem.W.Frag} {I : Hp}
theorem lk_at {p : Int × Int} : ∀ {xs : MX}, (∀ x ∈ xs, EnP K I x) → (atKey xs (pkK p)).map (fun z => vP z.2) = lkZ (pkOf xs) p
  | [], _ => rfl
  | x :: xs, h => by
    have ih := lk_at (p := p) (xs := xs) fun y hy => h y (List.mem_cons_of_mem _ hy)
    have hx := (h x List.mem_cons_self).fst
    unfold atKey lkZ pkOf at ih ⊢
    rw [List.map_cons, List.find?_cons, List.find?_cons]
    by_cases c : (enP x).1 = p
    · have c' : x.1 = pkK p := by rw [hx, c]
      rw [decide_eq_true c, decide_eq_true c']
      rfl
    · have c' : ¬ x.1 = pkK p := fun z => c (pkK_inj (hx.symm.trans z))
      rw [decide_eq_false c, decide_eq_false c']
      exact ih
theorem put_at {xs : MX} {p : Int × Int} {b : Addr} {n : Int} {t : Tok} (h : ∀ x ∈ xs, EnP K I x) : pkOf (storedH xs (pkK p) b (Value.int n t)) = putZ (pkOf xs) p n := by
  have l := lk_at (p := p) h
  unfold putZ
  rw [← l]
  cases ha : atKey xs (pkK p) with
  | none =>
    rw [storedH_new ha]
    show _ = if (none : Option Int).isSome then _ else _
    rw [if_neg (by decide)]
    unfold pkOf
    rw [List.map_append]
    rfl
  | some z =>
    rw [storedH_old ha]
    show _ = if (some (vP z.2)).isSome then _ else _
    rw [if_pos (show (some (vP z.2)).isSome = true from rfl)]
    unfold pkOf
    rw [List.map_map, List.map_map]
    refine List.map_congr_left fun x hx => ?_
    have e := (h x hx).fst
    show enP (putAt (pkK p) (Value.int n t) x) = if (enP x).1 = p then ((enP x).1, n) else enP x
    unfold putAt
    by_cases c : (enP x).1 = p
    · rw [if_pos c, if_pos (by rw [e, c])]
      rfl
    · rw [if_neg c, if_neg fun z => c (pkK_inj (e.symm.trans z))]
theorem drop_at {p : Int × Int} : ∀ {xs : MX}, (∀ x ∈ xs, EnP K I x) → pkOf (withoutH xs (pkK p)) = dropZ (pkOf xs) p
  | [], _ => rfl
  | x :: xs, h => by
    have ih := drop_at (p := p) (xs := xs) fun y hy => h y (List.mem_cons_of_mem _ hy)
    have hx := (h x List.mem_cons_self).fst
    unfold withoutH dropZ pkOf at ih ⊢
    rw [List.map_cons, List.filter_cons, List.filter_cons]
    by_cases c : (enP x).1 = p
    · have c' : x.1 = pkK p := by rw [hx, c]
      simp only [ne_eq, c, c', not_true_eq_false, decide_false, Bool.false_eq_true, if_false]
      exact ih
    · have c' : ¬ x.1 = pkK p := fun z => c (pkK_inj (hx.symm.trans z))
      simp only [ne_eq, c, c', not_false_eq_true, decide_true, if_true, List.map_cons]
      exact congrArg _ ih
end
/-! ### a dict told whole -/
structure Fz (P : Program) (w : World) (K : PySem.W.Frag) (I : Hp) (a : Addr) (kvs : PK) : Prop where
  ex : ∃ xs o, I a = some (.frz o (memO P w a xs)) ∧ (a == sysModules) = false ∧ (xs.map (·.1)).Nodup ∧ (∀ x ∈ xs, EnP K I x) ∧ pkOf xs = kvs
section
variable {P : Program} {w : World} {K : PySem.W.Frag} {I I' H : Hp} {h : Heap} {a : Addr} {kvs : PK} {xs : MX}
theorem Fz.mono (z : Fz P w K I a kvs) (e : Ex I I') : Fz P w K I' a kvs := by
  obtain ⟨xs, o, h1, h2, h3, h4, h5⟩ := z.ex
  exact ⟨xs, o, e _ _ h1, h2, h3, fun x hx => (h4 x hx).mono e, h5⟩
theorem en_of (m : Mm P w K valP I H a xs) : ∀ x ∈ xs, EnP K I x := fun x hx => by
  obtain ⟨dk, dv, v, h1, h2, h3, h4, p, n, rfl, rfl⟩ := m.en x hx
  cases h4
  obtain ⟨t, h3⟩ : ∃ t, x.2.2 = Value.int n t := h3
  rw [nk8_pk] at h1
  exact ⟨p, n, t, (Option.some.inj h1).symm, h2, h3⟩
theorem mm_en {x : NestedKey × Addr × Value} (h : EnP K I x) : ∃ dk dv v, nk8 dk = some x.1 ∧ Rd K I (.ref x.2.1) dk ∧ RelV v x.2.2 ∧ Rd K I v dv ∧ valP dk dv := by
  obtain ⟨p, n, t, h1, h2, h3⟩ := h
  exact ⟨pkD p, .int n, .int n, by rw [h1]; exact nk8_pk, h2, by rw [h3]; exact ⟨t, rfl⟩, .int, p, n, rfl, rfl⟩
theorem fz_dict {o : Obj} (h1 : I a = some (.frz o (memO P w a xs))) (h3 : (xs.map (·.1)).Nodup) (h4 : ∀ x ∈ xs, EnP K I x) (e : Ex I H) (hok : HOk P w H h) : h.get? a = some o ∧ h.DictOfH (nestedKind P w) a xs := by
  obtain ⟨g, ⟨o', es, ep, k1, k2, k3, k4⟩, _, _⟩ := hok a _ (e a _ h1)
  refine ⟨g, o', es, ep, k1, k2, k3, k4, fun x hx => ?_, h3⟩
  obtain ⟨dk, _, _, q1, q2, _⟩ := mm_en (h4 x hx)
  obtain ⟨q3, q4⟩ := nk8_some q1
  exact ⟨nk_is e hok dk x.1 _ _ q3 q2 rfl, q4⟩
end
/-- a changing dict is told whole from here on -/
def tFz (X : Cx) (t : TE) : TE := fun σ H Q => t σ H fun v H1 => ∃ a xs, v = .ref a ∧ H1 a = some (memO X.prog X.w a xs) ∧ ∀ o, Q v (upd H1 a (.frz o (memO X.prog X.w a xs)))
theorem pe_fz {X : Cx} {e : Expr} {t : TE} (he : PE X e t) : PE X e (tFz X t) := ⟨fun pins s σ H Q I h => thn (he.run pins s σ H _ I h) fun u s1 ⟨v, H1, I1, rv, a, xs, ev, ha, q⟩ => by
  subst ev
  have k := I1.hok a _ ha
  obtain ⟨⟨o, es, ep, k1, k2, k3, k4⟩, _, _⟩ := k
  refine ⟨_, _, ?_, rv, q o⟩
  exact I1.write (x := a) (e := a) (h' := s1.heap) (t' := s1.toks) (by rw [ha]; trivial) (.inl rfl) (fun _ _ _ z => z) ⟨o, k1⟩ ⟨k1, memO_ok ⟨o, es, ep, k1, k2, k3, k4⟩⟩⟩
section
variable {X : Cx} {i o e f : Expr} {pos apos cpos p : Pos} {td ty tx : TE} {val : D → D → Prop}
/-! ### a changing one: get, pop -/
def tMGetD (X : Cx) (val : D → D → Prop) (td ty tx : TE) : TE := fun σ H Q => td σ H fun x H1 => ty σ H1 fun y H2 => tx σ H2 fun z H3 => ∃ a b I xs dk k, MKey X val H3 x y a b I xs dk k ∧ (∀ p, atKey xs k = some p → ∀ v, RelV v p.2 → Q v H3) ∧ (atKey xs k = none → Q z H3)
theorem pe_mgetD (hu : X.A.units + 64 < cLine) (ho : PE X o td) (he : PE X e ty) (hf : PE X f tx) (m : M2 X o "get" apos e f cpos) (hdk : ∀ σ H Q, td σ H Q → td σ H fun x H1 => (∃ a xs, x = .ref a ∧ H1 a = some (memO X.prog X.w a xs)) ∧ Q x H1) : PE X (.Call (.Attribute o "get" apos) [e, f] [] cpos) (tMGetD X val td ty tx) := by
  refine ⟨fun pins s σ H Q I h => ?_⟩
  refine wpAny_Call_method m.base m.few m.line PySem.F.plainAttrs_dict PySem.F.slot_dict_get PySem.F.type_dict_get (thn (ho.run pins s σ H _ I (hdk _ _ _ h)) fun u s1 ⟨x, H1, I1, rx, ⟨a, xs, ea, ha⟩, q1⟩ => ?_)
  subst ea
  obtain rfl : u = Value.ref a := rx
  obtain ⟨⟨ob, es, ep, k1, k2, k3, k4⟩, _, _⟩ := I1.hok a _ ha
  refine ⟨⟨ob, k1, k2.1⟩, fun b z => ?_, ?_⟩
  · cases z
    exact ⟨ob, k1, k2.2.1⟩
  rw [m.trees]
  refine Calls.callWith_builtin rfl (Calls.evalArgs_plain (Calls.spliced_cons (thn (he.run pins s1 σ H1 _ I1 q1) fun iv s2 ⟨y, H2, I2, ry, q2⟩ => Calls.spliced_cons (thn (hf.run pins s2 σ H2 _ I2 q2) fun fv s3 ⟨z, H3, I3, rz, a', b, J, ys, dk, k, mk, g1, g2⟩ => Calls.spliced_nil ?_))))
  obtain ⟨d1, d2⟩ := mk_is mk I3.hok
  obtain ⟨e1, rfl, _, mm, _⟩ := mk
  cases e1
  obtain rfl : iv = Value.ref b := ry
  refine call_meetsIn F.slot_dict_get d1.typeIs F.entry_dict_get (F.args_dict_get_3 _ _ _) (meetsH_dict_get_default (nestedKind X.prog X.w) a b mm.ns fv) ⟨mroom hu, k, ys, d2, d1, ?_⟩
  cases hk : atKey ys k with
  | none => exact ⟨z, H3, I3.tok _, rz, g2 hk⟩
  | some p =>
    obtain ⟨_, _, v, _, r1, _⟩ := mm.look hk
    exact ⟨v, H3, I3.tok _, r1, g1 p hk v r1⟩
def tMPop (X : Cx) (val : D → D → Prop) (td ty : TE) : TE := fun σ H Q => td σ H fun x H1 => ty σ H1 fun y H2 => ∃ a b I xs dk k p, MKey X val H2 x y a b I xs dk k ∧ atKey xs k = some p ∧ xs.length ≤ sizeLine ∧ ∀ v o, RelV v p.2 → Q v (upd H2 a (.frz o (memO X.prog X.w a (withoutH xs k))))
theorem pe_mpop (hu : X.A.units + 64 < cLine) (ho : PE X o td) (he : PE X e ty) (m : M1 X o "pop" apos e cpos) (hdk : ∀ σ H Q, td σ H Q → td σ H fun x H1 => (∃ a xs, x = .ref a ∧ H1 a = some (memO X.prog X.w a xs)) ∧ Q x H1) : PE X (.Call (.Attribute o "pop" apos) [e] [] cpos) (tMPop X val td ty) := by
  refine ⟨fun pins s σ H Q I h => ?_⟩
  refine wpAny_Call_method m.base m.few m.line PySem.F.plainAttrs_dict PySem.F.slot_dict_pop PySem.F.type_dict_pop (thn (ho.run pins s σ H _ I (hdk _ _ _ h)) fun u s1 ⟨x, H1, I1, rx, ⟨a, xs, ea, ha⟩, q1⟩ => ?_)
  subst ea
  obtain rfl : u = Value.ref a := rx
  obtain ⟨⟨ob, es, ep, k1, k2, k3, k4⟩, _, _⟩ := I1.hok a _ ha
  refine ⟨⟨ob, k1, k2.1⟩, fun b z => ?_, ?_⟩
  · cases z
    exact ⟨ob, k1, k2.2.1⟩
  rw [m.trees]
  refine Calls.callWith_builtin rfl (Calls.evalArgs_plain (Calls.spliced_cons (thn (he.run pins s1 σ H1 _ I1 q1) fun iv s2 ⟨y, H2, I2, ry, a', b, J, ys, dk, k, pp, mk, hp, hz, g⟩ => Calls.spliced_nil ?_)))
  obtain ⟨d1, d2⟩ := mk_is mk I2.hok
  obtain ⟨e1, rfl, _, mm, _⟩ := mk
  cases e1
  obtain rfl : iv = Value.ref b := ry
  refine call_pop_heap (more := []) (.inl rfl) (F.args_dict_pop_2 _ _) (mroom hu) d2 mm.ns d1 hp (fun h' dd hs => ?_) hz
  obtain ⟨_, _, v, _, r1, _⟩ := mm.look hp
  obtain ⟨ob2, es2, ep2, j1, j2, j3, j4, _, _⟩ := dd
  refine ⟨v, _, ?_, r1, g v ob2 r1⟩
  exact I2.write (x := a) (e := a) (by rw [mm.at_]; trivial) (.inl rfl) (fun c q hb z => (hs.2 c hb).trans z) ⟨ob2, j1⟩ ⟨j1, memO_ok ⟨ob2, es2, ep2, j1, j2, j3, j4⟩⟩
end
end BW
/-! BCore100: such dicts told whole: walked by keys, by items; len, min, d[k], dict(d), list(d.keys()). -/
namespace BW
open PySem PySem.Spec PyProof.Rows L2
open Evl (Ex Ex.refl Ex.trans Ex.new ex_rd ex_l ex_t)
/-! ### walked -/
def ItKz (P : Program) (w : World) (d : Addr) (o : Obj) (xs : MX) : It := ⟨fun i H => H d = some (.frz o (memO P w d xs)) ∧ i < xs.length, fun i H x H' => H' = H ∧ ∃ y, xs[i]? = some y ∧ x = .ref y.2.1, fun i H => H d = some (.frz o (memO P w d xs)) ∧ xs.length ≤ i⟩
def ItIz (P : Program) (w : World) (d : Addr) (o : Obj) (xs : MX) : It := ⟨fun i H => H d = some (.frz o (memO P w d xs)) ∧ i < xs.length, fun i H x H' => ∃ T y, xs[i]? = some y ∧ x = .ref T ∧ H T = none ∧ H' = upd H T (.frz (tObj [.ref y.2.1, y.2.2]) (.tup [.ref y.2.1, .int (vP y.2.2)])), fun i H => H d = some (.frz o (memO P w d xs)) ∧ xs.length ≤ i⟩
section
variable {P : Program} {w : World} {K : PySem.W.Frag} {tg : Expr} {d : Addr} {o : Obj} {es : Array DictEntry} {ep : Nat} {xs : MX}
theorem turn_kz (it : Addr) (hod : o.data = .dict es ep) (hsz : es.size = xs.length) (hes : es.toList = xs.map (entryOfKey (nestedKind P w))) : Turn P w K tg (ItKz P w d o xs) [it] it (fun i h => h.IsKeyIter it d i xs.length ep) where
  mem := by simp
  obj := fun i h st b hb => by
    obtain rfl : b = it := by simpa using hb
    obtain ⟨oi, e, c, dd⟩ := st
    exact ⟨oi, e, fun v z => by rw [dd] at z; cases z⟩
  keep := fun i h h' st k => st.at fun oi e => k it (by simp) oi e
  item := by
    intro X hP hw hK hc i pins s σ H E I hf st ⟨hd, hi⟩
    subst hP hw hK
    obtain ⟨f0, f1, f2, f3, f4, f5⟩ := hf it (by simp)
    obtain ⟨hgd, _⟩ := I.hok d _ hd
    have hen := entry_at hes i
    rw [List.getElem?_eq_getElem hi] at hen
    refine next_key_item st hgd hod hsz hen fun h' st' sb => ?_
    have I1 : Inv X pins σ H { s with heap := h' } := I.turned (t' := s.toks) (fun b ob hb e => (sb.2 b hb).trans e) f0 f1 f3 f4 f5
    obtain ⟨oi, e, c, dd⟩ := id st'
    exact ⟨_, rfl, go_of (s := { s with heap := h' }) e c dd (by decide) ⟨.ref xs[i].2.1, H, I1, rfl, ⟨rfl, _, List.getElem?_eq_getElem hi, rfl⟩, st', fun b hb => (hf b hb).1⟩⟩
  done := by
    intro X hP hw hK hc i pins s σ H E I hf st ⟨hd, hi⟩
    subst hP hw hK
    obtain ⟨f0, f1, f2, f3, f4, f5⟩ := hf it (by simp)
    obtain ⟨hgd, _⟩ := I.hok d _ hd
    exact next_key_end (I.ok.hd hc) st hgd hod hsz hi fun h' eb => ⟨rfl, I.turned (t' := s.toks) (fun b ob hb e => eb b ob hb e) f0 f1 f3 f4 f5⟩
  self := fun A i s Q E st h => by
    refine wpAny_pyIter_slot st.typeIs F.slot_dict_keyiterator_iter (wpAny_call_entry F.slot_dict_keyiterator_iter st.typeIs F.entry_dict_keyiterator_iter ?_ (F.args_dict_keyiterator_iter_1 _))
    show wpAny _ _ (ret (.ref it)) _ _ s
    exact wpAny_pure ⟨_, rfl, "dict_keyiterator", _, st.typeIs, F.slot_dict_keyiterator_next.lookup, h⟩
theorem turn_iz {elts : List Expr} {kk : Nat} {tpos : Pos} (it : Addr) (hod : o.data = .dict es ep) (hx : o.ExactDict) (hsz : es.size = xs.length) (hes : es.toList = xs.map (entryOfKey (nestedKind P w))) (hv : ∀ y ∈ xs, ∃ n t, y.2.2 = Value.int n t) :
    Turn P w K (.Tuple elts kk tpos) (ItIz P w d o xs) [it] it (fun i h => ∃ ok ov, IsItemIter h it d i es.size ep ok ov) where
  mem := by simp
  obj := fun i h st b hb => by
    obtain rfl : b = it := by simpa using hb
    obtain ⟨ok, ov, e⟩ := st
    exact ⟨_, e, fun v z => nomatch z⟩
  keep := fun i h h' st k => let ⟨ok, ov, e⟩ := st; ⟨ok, ov, k it (by simp) _ e⟩
  item := by
    intro X hP hw hK hc i pins s σ H E I hf st ⟨hd, hi⟩
    subst hP hw hK
    obtain ⟨hgd, _⟩ := I.hok d _ hd
    obtain ⟨ok, ov, he⟩ := st
    have hi' : i < es.size := by rw [hsz]; exact hi
    have hen := entry_at hes i
    rw [Array.getElem?_eq_getElem hi', List.getElem?_eq_getElem hi, Option.map_some] at hen
    have hen := Option.some.inj hen
    have hy := List.getElem?_eq_getElem hi
    generalize xs[i] = y at hen hy
    obtain ⟨n, t, hn⟩ := hv y (List.mem_of_getElem? hy)
    have hlt : it < s.heap.objs.size := Heap.lt_size he
    refine wpAny_pyNext_items_item_raw he ⟨o, hgd, hx, hod⟩ hi' fun h' ho hT hz hk => ?_
    rw [hen] at ho hT
    refine ⟨_, rfl, wpAny_letOwnedTupleGo_items (s := { s with heap := h' }) ho fun h'' he' sb => ?_⟩
    have hT2 : h''.get? s.heap.objs.size = some (tObj [.ref y.2.1, y.2.2]) := (sb.2 _ (Nat.ne_of_gt hlt)).trans hT
    have new : ObjOk X.prog X.w (upd H s.heap.objs.size (.frz (tObj [.ref y.2.1, y.2.2]) (.tup [.ref y.2.1, .int (vP y.2.2)]))) h'' s.heap.objs.size (.frz (tObj [.ref y.2.1, y.2.2]) (.tup [.ref y.2.1, .int (vP y.2.2)])) :=
      ⟨hT2, by show 2 ≤ sizeLine; decide, [.ref y.2.1, y.2.2], .cons rfl (.cons (by rw [hn]; exact ⟨t, rfl⟩) .nil), ⟨_, hT2, rfl, _, rfl⟩⟩
    have I1 := I.turnedNew (h' := h'') (t' := s.toks) (ch := [it]) (fun b ob hb e => (sb.2 b (by simpa using hb)).trans (hk b ob (by simpa using hb) e)) hf (Nat.le_refl _) new
    refine ⟨.ref s.heap.objs.size, _, I1, rfl, ⟨_, y, hy, rfl, I.hok.fresh (Nat.le_refl _), rfl⟩, ⟨_, _, he'⟩, fun b hb => ?_⟩
    obtain rfl : b = it := by simpa using hb
    rw [upd_ne (Nat.ne_of_lt hlt)]
    exact (hf b (by simp)).1
  done := by
    intro X hP hw hK hc i pins s σ H E I hf st ⟨hd, hi⟩
    subst hP hw hK
    obtain ⟨f0, f1, f2, f3, f4, f5⟩ := hf it (by simp)
    obtain ⟨hgd, _⟩ := I.hok d _ hd
    obtain ⟨ok, ov, he⟩ := st
    exact wpAny_pyNext_items_end_raw (I.ok.hd hc) he ⟨o, hgd, hx, hod⟩ (by rw [hsz]; exact hi) fun h' eb => ⟨rfl, I.turned (t' := s.toks) (fun b ob hb e => eb b ob hb e) f0 f1 f3 f4 f5⟩
  self := fun A i s Q E st h => let ⟨_, _, e⟩ := st; PySem.W.kcp_self e h
end
theorem fz_raw {P : Program} {w : World} {H : Hp} {h : Heap} {a : Addr} {o : Obj} {xs : MX} (hok : HOk P w H h) (e : H a = some (.frz o (memO P w a xs))) : h.get? a = some o ∧ o.ExactDict ∧ ∃ es ep, o.data = .dict es ep ∧ es.size = xs.length ∧ es.toList = xs.map (entryOfKey (nestedKind P w)) := by
  obtain ⟨g, ⟨o', es, ep, k1, k2, k3, k4⟩, _, _⟩ := hok a _ e
  rw [g] at k1
  cases k1
  exact ⟨g, k2, es, ep, k3, size_of_entries k4, k4⟩
/-- the dict that is walked is told whole -/
def iKz (X : Cx) (td : TE) : TI := fun σ H R => td σ H fun x H1 => ∃ d o xs, x = .ref d ∧ H1 d = some (.frz o (memO X.prog X.w d xs)) ∧ (d == sysModules) = false ∧ R (ItKz X.prog X.w d o xs) H1
def iIz (X : Cx) (td : TE) : TI := fun σ H R => td σ H fun x H1 => ∃ d o xs, x = .ref d ∧ H1 d = some (.frz o (memO X.prog X.w d xs)) ∧ (d == sysModules) = false ∧ (∀ y ∈ xs, ∃ n t, y.2.2 = Value.int n t) ∧ R (ItIz X.prog X.w d o xs) H1
section
variable {X : Cx} {tg e : Expr} {td : TE} {apos cpos p pos : Pos}
theorem pi_kz (he : PE X e td) : PI X tg e (iKz X td) := ⟨fun pins s σ H R I h => thn (he.run pins s σ H _ I h) fun u s1 ⟨x, H1, I1, rx, d, o, xs, ex, hd, hs, q⟩ => by
  subst ex
  obtain rfl : u = Value.ref d := rx
  obtain ⟨hgd, hx, es, ep, hdt, hsz, hes⟩ := fz_raw I1.hok hd
  refine iter_keys hs hgd hx hdt (pi_one (tk := s1.toks) I1 _ (turn_kz _ hdt hsz hes) ⟨_, Heap.get?_push_size _ rfl, rfl, ?_⟩ q)
  rw [hsz] <;> rfl⟩
theorem pi_iz {elts : List Expr} {kk : Nat} {tpos : Pos} (he : PE X e td) (hbase : attributeBase e "items" X.env (eval e X.env) = eval e X.env := by rfl) (hline : (apos.endLine == cpos.line) = true := by rfl) : PI X (.Tuple elts kk tpos) (.Call (.Attribute e "items" apos) [] [] cpos) (iIz X td) := ⟨fun pins s σ H R I h => by
  refine wpAny_Call_method (T := "dict") (id := "dict.items") hbase rfl hline F.plainAttrs_dict F.slot_dict_items F.type_dict_items (thn (he.run pins s σ H _ I h) fun u s1 ⟨x, H1, I1, rx, d, o, xs, ex, hd, hs, hv, q⟩ => ?_)
  subst ex
  obtain rfl : u = Value.ref d := rx
  obtain ⟨hgd, hx, es, ep, hdt, hsz, hes⟩ := fz_raw I1.hok hd
  refine ⟨⟨o, hgd, hx.1⟩, fun b z => by cases z; exact ⟨o, hgd, hx.2.1⟩, ?_⟩
  have I2 : Inv X pins σ H1 { s1 with heap := s1.heap.push { cls := .type "dict_items", data := .fields #[.ref d] } } := I1.kept (t' := s1.toks) fun b ob q => Heap.get?_push_of_some _ q
  have raw : s1.heap.DictRaw d es ep := ⟨o, hgd, hx, hdt⟩
  have fin : wpAny (model X.prog X.w) X.A (pyIter (.ref s1.heap.objs.size)) (PIE X pins σ (.Tuple elts kk tpos) R) X.xe { s1 with heap := s1.heap.push { cls := .type "dict_items", data := .fields #[.ref d] } } :=
    wpAny_pyIter_items_raw (d := d) ⟨_, Heap.get?_push_size _ rfl, rfl, rfl⟩ (raw.push _) (pi_one (tk := s1.toks) I2 _ (turn_iz _ hdt hx hsz hes hv) ⟨.none, .none, Heap.get?_push_size _ rfl⟩ q)
  show wpAny _ _ (callWith cpos (.builtin "dict.items") [.ref d] [] []) _ X.xe s1
  exact method_meetsIn F.slot_dict_items F.entry_dict_items rfl (PySem.evalArgs_none ⟨rfl, raw.typeIs, F.args_dict_items_1 _, _, meets_dict_items_raw d hs, ⟨⟨es, ep, raw⟩, fin⟩⟩)⟩
/-! ### list(d.keys()) -/
def tLKz (X : Cx) (td : TE) : TE := fun σ H Q => td σ H fun x H1 => ∃ d o xs, x = .ref d ∧ H1 d = some (.frz o (memO X.prog X.w d xs)) ∧ (d == sysModules) = false ∧ xs.length ≤ sizeLine ∧ ∀ l, H1 l = none → Q (.ref l) (upd H1 l (.lst (xs.map fun y => V.ref y.2.1)))
theorem vals_keys {es : Array DictEntry} {xs : MX} {acc : Array Value} (hes : ∀ i : Nat, es[i]? = (xs[i]?).map (entryOfKey (nestedKind X.prog X.w))) (hsz : es.size = xs.length) (ha : ItemsOf (fun (i : Nat) v => ∃ hi : i < es.size, v = es[i].key) acc es.size) : acc.toList = xs.map fun y => Value.ref y.2.1 := by
  refine List.ext_getElem? fun i => ?_
  rw [Array.getElem?_toList, List.getElem?_map]
  by_cases hi : i < es.size
  · have hia : i < acc.size := by rw [ha.1]; exact hi
    obtain ⟨h2, e⟩ := ha.2 i acc[i] (Array.getElem?_eq_getElem hia)
    have q := hes i
    rw [Array.getElem?_eq_getElem hi, List.getElem?_eq_getElem (by omega)] at q
    rw [Array.getElem?_eq_getElem hia, List.getElem?_eq_getElem (by omega), e, Option.some.inj q]
    rfl
  · rw [Array.getElem?_eq_none (by rw [ha.1]; omega), List.getElem?_eq_none (by omega)]
    rfl
theorem pe_lkz (hc : X.calm = true) (he : PE X e td) (hg : Gl X "list") (hm : X.mg "list" = none) (hv : bootBuiltins "list" = some (.type "list") := by decide +kernel) (hbase : attributeBase e "keys" X.env (eval e X.env) = eval e X.env := by rfl) (hline : (apos.endLine == cpos.line) = true := by rfl)
    (hs : starEach [.Call (.Attribute e "keys" apos) [] [] cpos] X.env = (false, eval (.Call (.Attribute e "keys" apos) [] [] cpos) X.env) :: starEach [] X.env := by rfl) :
    PE X (.Call (.Name "list" p) [.Call (.Attribute e "keys" apos) [] [] cpos] [] pos) (tLKz X td) := ⟨fun pins s σ H Q I hq => by
  refine wpAny_Call_Name_kw (ld_blt I hg hm hv (PyProof.Rows.callWith_type1 ?_ hs rfl))
  rw [hs]
  show wpAny _ _ (spliced ((false, eval (.Call (.Attribute e "keys" apos) [] [] cpos) X.env) :: backTo pos (starEach [] X.env))) _ _ s
  refine Calls.spliced_cons (wpAny_Call_method (T := "dict") (id := "dict.keys") hbase rfl hline F.plainAttrs_dict F.slot_dict_keys F.type_dict_keys (thn (he.run pins s σ H _ I hq) fun u s1 ⟨x, H1, I1, rx, d, o, xs, ex, hd, hs0, hl, q⟩ => ?_))
  subst ex
  obtain rfl : u = Value.ref d := rx
  obtain ⟨hgd, hx, es, ep, hdt, hsz, hes⟩ := fz_raw I1.hok hd
  have raw : s1.heap.DictRaw d es ep := ⟨o, hgd, hx, hdt⟩
  have I2 : Inv X pins σ H1 { s1 with heap := s1.heap.push { cls := .type "dict_keys", data := .fields #[.ref d] } } := I1.kept (t' := s1.toks) fun b ob q => Heap.get?_push_of_some _ q
  refine ⟨⟨o, hgd, hx.1⟩, fun b z => by cases z; exact ⟨o, hgd, hx.2.1⟩, ?_⟩
  show wpAny _ _ (callWith cpos (.builtin "dict.keys") [.ref d] [] []) _ X.xe s1
  refine method_meetsIn F.slot_dict_keys F.entry_dict_keys rfl (PySem.evalArgs_none ⟨rfl, raw.typeIs, F.args_dict_keys_1 _, _, meets_dict_keys_raw d hs0, ⟨⟨es, ep, raw⟩, ?_⟩⟩)
  refine Calls.spliced_nil (PySem.W.kdl_call (KdlSrc.rawKeys (r := s1.heap.objs.size) (d := d) (es := es) (ep := ep)) (I1.ok.hd hc) ⟨⟨_, Heap.get?_push_size _ rfl, rfl, rfl⟩, raw.push _⟩ (by omega) fun h' tk acc c hk hS ha => ?_)
  have hv' := vals_keys (X := X) (entry_at hes) hsz ha
  refine ⟨.ref (s1.heap.push { cls := .type "dict_keys", data := .fields #[.ref d] }).objs.size, _, I2.laid (t' := tk) hk (Nat.le_refl _) (o := .lst (xs.map fun y => V.ref y.2.1)) ⟨by rw [List.length_map]; exact hl, acc.toList, c, ?_, hS⟩, rfl, q _ (I1.hok.fresh ?_)⟩
  · rw [hv']
    exact vals_maps (fun y : NestedKey × Addr × Value => V.ref y.2.1) (fun y => Value.ref y.2.1) xs fun _ _ => rfl
  · show s1.heap.objs.size ≤ (s1.heap.push _).objs.size
    rw [Heap.size_push]
    exact Nat.le_succ _⟩
end
end BW
/-! BCore101: len, min, dict(d), d[k] of such dicts told whole; what expressions over them tell. -/
namespace BW
open PySem PySem.Spec PyProof.Rows L2
open Evl (Ex Ex.refl Ex.trans Ex.new ex_rd ex_l ex_t)
/-! ### keys that hash apart -/
def hashZ (p : Int × Int) : Int := reduceHash (Builtin.Tuple.tupleHashOf [hashInt p.1, hashInt p.2])
def tabZ : List (Int × Int) := (List.range 20).flatMap fun (i : Nat) => (List.range 20).map fun (j : Nat) => ((i : Int), (j : Int))
theorem tab_nd : (tabZ.map hashZ).Nodup := by decide +kernel
theorem map_apart {α β : Type} {f : α → β} : ∀ {l : List α}, (l.map f).Nodup → ∀ {a b : α}, a ∈ l → b ∈ l → f a = f b → a = b
  | [], _, _, _, h, _, _ => by cases h
  | x :: l, n, a, b, ha, hb, e => by
    rw [List.map_cons, List.nodup_cons] at n
    rcases List.mem_cons.mp ha with ea | ha <;> rcases List.mem_cons.mp hb with eb | hb
    · rw [ea, eb]
    · exact absurd (List.mem_map.mpr ⟨b, hb, by rw [← e, ea]⟩) n.1
    · exact absurd (List.mem_map.mpr ⟨a, ha, by rw [e, eb]⟩) n.1
    · exact map_apart n.2 ha hb e
def inPZ (l : PK) : Bool := decide (l.length ≤ 1000) && l.all fun x => decide (0 ≤ x.1.1 ∧ x.1.1 < 20 ∧ 0 ≤ x.1.2 ∧ x.1.2 < 20)
theorem mem_tab {p : Int × Int} (h : 0 ≤ p.1 ∧ p.1 < 20 ∧ 0 ≤ p.2 ∧ p.2 < 20) : p ∈ tabZ := by
  obtain ⟨a, b⟩ := p
  obtain ⟨h1, h2, h3, h4⟩ := h
  have h1 : 0 ≤ a := h1
  have h2 : a < 20 := h2
  have h3 : 0 ≤ b := h3
  have h4 : b < 20 := h4
  refine List.mem_flatMap.mpr ⟨a.toNat, List.mem_range.mpr (by omega), List.mem_map.mpr ⟨b.toNat, List.mem_range.mpr (by omega), ?_⟩⟩
  rw [Int.toNat_of_nonneg h1, Int.toNat_of_nonneg h3]
theorem nodup_on {α β : Type} {f : α → β} : ∀ {l : List α}, l.Nodup → (∀ a ∈ l, ∀ b ∈ l, f a = f b → a = b) → (l.map f).Nodup
  | [], _, _ => List.nodup_nil
  | x :: l, n, h => by
    rw [List.nodup_cons] at n
    rw [List.map_cons, List.nodup_cons]
    refine ⟨fun z => ?_, nodup_on n.2 fun a ha b hb => h a (List.mem_cons_of_mem _ ha) b (List.mem_cons_of_mem _ hb)⟩
    obtain ⟨y, hy, e⟩ := List.mem_map.mp z
    rw [h x List.mem_cons_self y (List.mem_cons_of_mem _ hy) e.symm] at n
    exact n.1 hy
theorem hash_nd {P : Program} {w : World} {K : PySem.W.Frag} {I : Hp} {xs : MX} (hn : (xs.map (·.1)).Nodup) (he : ∀ x ∈ xs, EnP K I x) (hz : inPZ (pkOf xs) = true) : (xs.map fun x => (nestedKind P w).hash x.1).Nodup := by
  have hz := (Bool.and_eq_true _ _ ▸ hz : _ ∧ _).2
  rw [List.all_eq_true] at hz
  have key : ∀ x ∈ xs, (nestedKind P w).hash x.1 = hashZ (enP x).1 ∧ (enP x).1 ∈ tabZ := fun x hx => by
    refine ⟨?_, mem_tab (of_decide_eq_true (hz (enP x) (List.mem_map.mpr ⟨x, hx, rfl⟩)))⟩
    rw [(he x hx).fst]
    rfl
  have e : (xs.map fun x => (nestedKind P w).hash x.1) = (xs.map (·.1)).map ((nestedKind P w).hash) := by rw [List.map_map]; rfl
  rw [e]
  refine nodup_on hn fun a ha b hb h => ?_
  obtain ⟨x, hx, rfl⟩ := List.mem_map.mp ha
  obtain ⟨y, hy, rfl⟩ := List.mem_map.mp hb
  rw [(key x hx).1, (key y hy).1] at h
  rw [(he x hx).fst, (he y hy).fst, map_apart tab_nd (key x hx).2 (key y hy).2 h]
/-! ### calls -/
theorem wz_dict {prog : Program} {w : World} {A : Around} {E : Value → Shared → Prop} {s : Shared} {o : Addr} {xs : MX} {Q : Value → Shared → Prop} (hu : A.units + 64 < cLine) (hoS : (o == sysModules) = false) (ho : s.heap.DictOfH (nestedKind prog w) o xs) (hty : ∀ x ∈ xs, s.TypeIs (.ref x.2.1) "tuple") (hsz : xs.length ≤ sizeLine) (hap : (xs.map fun x => (nestedKind prog w).hash x.1).Nodup)
    (h : ∀ h', h'.DictOfH (nestedKind prog w) s.heap.objs.size xs → Heap.SameBut s.heap.objs.size (s.heap.push { cls := .type "dict", data := .dict #[] }) h' → Q (.ref s.heap.objs.size) { s with heap := h' }) : wpAny (model prog w) A (call (.type "dict") [.ref o]) Q E s := by
  refine callType_codes (Q₁ := fun obj s1 => obj = .ref s.heap.objs.size ∧ s1 = { s with heap := s.heap.push { cls := .type "dict", data := .dict #[] } }) F.kt_called_dict (F.kt_typeCall_dict_1 _) F.entry_dict_init (kt_code_dict_new _ ⟨rfl, rfl⟩) ?_
  rintro obj s1 ⟨rfl, rfl⟩
  have n0 : (s.heap.push { cls := .type "dict", data := .dict #[] }).DictOfH (nestedKind prog w) s.heap.objs.size [] := Heap.DictOfH.new s.heap
  have o1 : (s.heap.push { cls := .type "dict", data := .dict #[] }).DictOfH (nestedKind prog w) o xs := ho.at' (fun _ e => Heap.get?_push_of_some _ e) fun y hy => nestedKind_stays.stays (fun b ob _ _ e _ => Heap.get?_push_of_some _ e) (let ⟨_, _, _, _, _, _, _, his, _⟩ := ho; his y hy)
  have hdo : s.heap.objs.size ≠ o := fun e => absurd ho.lt_size (by rw [e]; exact Nat.lt_irrefl _)
  have ty1 : ∀ x ∈ xs, Shared.TypeIs { s with heap := s.heap.push { cls := .type "dict", data := .dict #[] } } (.ref x.2.1) "tuple" := fun x hx => let ⟨ob, e, c⟩ := hty x hx; ⟨ob, Heap.get?_push_of_some _ e, c⟩
  refine ⟨n0.typeIs, F.args_dict_init_2 _ _, ?_⟩
  unfold Builtin.«dict.__init__» Builtin.Dict.selfAndRest
  refine wpAny_bind (wpAny_bind (wpAny_notOrdered_dict n0.typeIs ?_))
  show wpAny _ _ (pure (s.heap.objs.size, [Value.ref o])) _ _ _
  refine wpAny_pure ?_
  show wpAny _ _ (Builtin.Dict.updateFrom "dict.__init__" s.heap.objs.size (.ref o) [] .none) _ _ _
  unfold Builtin.Dict.updateFrom
  refine wpAny_bind (wpAny_typeOf o1.typeIs ?_)
  rw [if_neg (by decide)]
  unfold Builtin.Dict.merge Builtin.Dict.readDirectly
  refine wpAny_bind (wpAny_bind (wpAny_bind (wpAny_isInstance o1.typeIs isSubtype_dict_dict ?_)))
  simp only [Bool.not_true, Bool.false_eq_true, if_false]
  refine wpAny_bind (wpAny_specialOf o1.typeIs F.slot_dict_iter.lookup (wpAny_pure ?_))
  simp only [beq_self_eq_true, if_true]
  refine wpAny_bind (wpAny_pure (wpAny_mergeDict_heap (hsz := by simpa using hsz) (show A.in1.in1.units + 8 < cLine by rw [Around.in1_units, Around.in1_units]; omega) hdo hoS n0 o1 (.inr ⟨ty1, hap⟩) fun h' hd' _ hs' => ?_))
  show wpAny _ _ (Builtin.Dict.addKeywords s.heap.objs.size [] >>= _) _ _ _
  rw [storedAllH_nil_of_nodup xs ho.nodup] at hd'
  exact wpAny_bind (wpAny_pure (wpAny_pure ⟨rfl, h h' hd' hs'⟩))
section
variable {X : Cx}
def rLenZ (X : Cx) : List V → Hp → VK → Prop := fun xs H Q => ∃ p I kvs, xs = [.ref p] ∧ Ex I H ∧ Fz X.prog X.w X.K I p kvs ∧ kvs.length ≤ 1000 ∧ Q (.int kvs.length) H
theorem call_lenZ : CallR X (.builtin "len") (rLenZ X) := by
  intro pins s σ H xs us Q I r h
  obtain ⟨p, J, kvs, rfl, ie, z, hl, q⟩ := h
  obtain ⟨u, rfl, rx⟩ := vals1 r
  cases rx
  obtain ⟨xs, o, h1, h2, h3, h4, rfl⟩ := z.ex
  obtain ⟨hgd, hx, es, ep, hdt, hsz, hes⟩ := fz_raw I.hok (ie _ _ h1)
  have hn : (pkOf xs).length = xs.length := List.length_map _
  refine PyProof.Rows.call_len_slot (n := ((pkOf xs).length : Int)) ⟨o, hgd, hx.1⟩ F.slot_dict_len (fun Q' hq => call_len_raw h2 ⟨o, hgd, hx, hdt⟩ (by rw [hsz, ← hn]; exact hq)) (by omega) (by omega) ?_
  exact ⟨.int (pkOf xs).length, H, I.tok _, ⟨_, rfl⟩, q⟩
theorem dp_pk {K : PySem.W.Frag} {I H : Hp} {b : Addr} {p : Int × Int} (e : Ex I H) (r : Rd K I (.ref b) (pkD p)) : Dp K H (.ref b) (pkY p) := by
  cases r with
  | tup ht ha =>
    cases ha with
    | cons r1 ha =>
      cases ha with
      | cons r2 ha =>
        cases ha
        cases r1
        cases r2
        exact .tup (ht.mono e).sq (.cons (.int _) (.cons (.int _) .nil))
theorem keys_at {xs : MX} {i : Nat} {y : NestedKey × Addr × Value} (h : xs[i]? = some y) : ((pkOf xs).map fun x => pkY x.1).getD i .none = pkY (enP y).1 := by
  unfold pkOf
  rw [List.map_map, List.getD_eq_getElem?_getD, List.getElem?_map, h]
  rfl
def rMinZ (X : Cx) : List V → Hp → VK → Prop := fun xs H Q => ∃ p I kvs k, xs = [.ref p] ∧ Ex I H ∧ Fz X.prog X.w X.K I p kvs ∧ minZ kvs = some k ∧ ∀ b, Rd X.K I (.ref b) (pkD k) → Q (.ref b) H
theorem call_minZ (hc : X.calm = true) (hu : X.A.units + 64 < cLine) : CallR X (.builtin "min") (rMinZ X) := by
  intro pins s σ H xs us Q I r h
  obtain ⟨p, J, kvs, k, rfl, ie, z, hk, q⟩ := h
  obtain ⟨u, rfl, rx⟩ := vals1 r
  cases rx
  obtain ⟨xs, o, h1, h2, h3, h4, rfl⟩ := z.ex
  obtain ⟨hgd, hx, es, ep, hdt, hsz, hes⟩ := fz_raw I.hok (ie _ _ h1)
  have hn : (pkOf xs).length = xs.length := List.length_map _
  have raw : s.heap.DictRaw p es ep := ⟨o, hgd, hx, hdt⟩
  have hp : p < s.heap.objs.size := Heap.lt_size hgd
  have pos : 0 < es.size := by
    rcases Nat.eq_zero_or_pos es.size with e | e
    · exfalso
      have : pkOf xs = [] := List.eq_nil_of_length_eq_zero (by omega)
      rw [this] at hk
      cases hk
    · exact e
  have he : ∀ i (hi : i < es.size), ∃ y, xs[i]? = some y ∧ es[i].key = .ref y.2.1 ∧ es[i].val = y.2.2 := fun i hi => by
    have q := entry_at hes i
    have hi2 : i < xs.length := by omega
    rw [Array.getElem?_eq_getElem hi, List.getElem?_eq_getElem hi2] at q
    have q := Option.some.inj q
    exact ⟨xs[i], List.getElem?_eq_getElem hi2, by rw [q]; rfl, by rw [q]; rfl⟩
  refine call_min_walkH (wpAny_pyIter_dict_raw h2 raw ⟨s.heap.objs.size, [s.heap.objs.size, p], [s.heap.objs.size], _, es.size, _, _, s.heap, (fun i j => PySem.W.dataLt (((pkOf xs).map fun x => pkY x.1).getD i .none) (((pkOf xs).map fun x => pkY x.1).getD j .none)), rfl,
    (Walks.keysH (A := X.A.in1) (I.ok.hd hc) s.heap.objs.size p (Nat.ne_of_lt hp) es ep he).toS, ⟨⟨_, Heap.get?_push_size _ rfl, rfl, rfl⟩, raw.push _⟩, fun b hb => ?_, pos, fun b ob e hb => ?_, fun b ob e => Heap.get?_push_of_some _ e, ?_, fun v s' hv m => ?_⟩)
  · show b < (s.heap.push _).objs.size
    rw [Heap.size_push]
    simp only [List.mem_cons, List.not_mem_nil, or_false] at hb
    rcases hb with rfl | rfl
    · exact Nat.lt_succ_self _
    · exact Nat.lt_succ_of_lt hp
  · rw [List.mem_singleton.mp hb] at e
    exact absurd (Heap.lt_size e) (Nat.lt_irrefl _)
  · rintro i j vi vj s' Q' E ks ⟨y, hy, rfl⟩ ⟨y', hy', rfl⟩ hq
    have rd : ∀ {i : Nat} {y : NestedKey × Addr × Value}, xs[i]? = some y → ∃ as, Reads s.heap (.ref y.2.1) (pkY (enP y).1) as := fun {i y} hy => by
      have e := h4 y (List.mem_of_getElem? hy)
      have f := e.fst
      obtain ⟨pp, n, t, e1, e2, e3⟩ := e
      rw [e1] at f
      rw [← pkK_inj f]
      exact Dp.reads I _ _ _ (dp_pk ie e2) rfl
    obtain ⟨as1, r1⟩ := rd hy
    obtain ⟨as2, r2⟩ := rd hy'
    have hq : Q' (.bool (PySem.W.dataLt (((pkOf xs).map fun x => pkY x.1).getD i .none) (((pkOf xs).map fun x => pkY x.1).getD j .none))) s' := hq
    rw [keys_at hy, keys_at hy'] at hq
    refine PySem.W.rcLt_alike _ _ X.A.in1 s' _ _ _ _ (Reads.keeps ks r1) (Reads.keeps ks r2) rfl (fun z => by cases z) ?_ X.prog X.w E Q' hq
    have : min (pkY (enP y).1).depth (pkY (enP y').1).depth ≤ 60 := Nat.le_trans (Nat.min_le_left _ _) (by simp [pkY, PyData.depth, PyData.depthAll])
    rw [Around.in1_units]
    omega
  · obtain ⟨y, hy, rfl⟩ := hv
    obtain ⟨h', tk, rfl, hk'⟩ := PySem.W.moved_old rfl rfl m
    refine ⟨.ref y.2.1, H, I.kept (t' := tk) hk', rfl, q _ ?_⟩
    have e := h4 y (List.mem_of_getElem? hy)
    have f := e.fst
    obtain ⟨pp, n, t, e1, e2, e3⟩ := e
    rw [e1] at f
    have hk2 : (pkOf xs)[argBest (fun i j => PySem.W.dataLt (((pkOf xs).map fun x => pkY x.1).getD i .none) (((pkOf xs).map fun x => pkY x.1).getD j .none)) (es.size - 1)]? = some (enP y) := by
      unfold pkOf at hy ⊢
      rw [List.getElem?_map, hy]
      rfl
    unfold minZ at hk
    rw [hn, ← hsz, hk2] at hk
    rw [← Option.some.inj hk]
    show Rd _ _ _ (pkD (enP y).1)
    rw [← pkK_inj f]
    exact e2
def rDictZ (X : Cx) : List V → Hp → VK → Prop := fun vs H Q => ∃ p I kvs, vs = [.ref p] ∧ Ex I H ∧ Fz X.prog X.w X.K I p kvs ∧ inPZ kvs = true ∧ ∀ a xs, H a = none → (a == sysModules) = false → (xs.map (·.1)).Nodup → (∀ x ∈ xs, EnP X.K I x) → pkOf xs = kvs → Q (.ref a) (upd H a (memO X.prog X.w a xs))
theorem call_dictZ (hu : X.A.units + 64 < cLine) : CallR X (.type "dict") (rDictZ X) := by
  intro pins s σ H xs us Q I r h
  obtain ⟨p, J, kvs, rfl, ie, z, hz, q⟩ := h
  obtain ⟨u, rfl, rx⟩ := vals1 r
  cases rx
  obtain ⟨xs, o, h1, h2, h3, h4, rfl⟩ := z.ex
  obtain ⟨hgd, dd⟩ := fz_dict h1 h3 h4 ie I.hok
  have hl : xs.length ≤ 1000 := by
    have := of_decide_eq_true ((Bool.and_eq_true _ _ ▸ hz : _ ∧ _).1)
    unfold pkOf at this
    rwa [List.length_map] at this
  refine wz_dict hu h2 dd (fun x hx => ?_) (by rw [PySem.sizeLine_eq]; omega) (hash_nd h3 h4 hz) fun h' hd' hs' => ?_
  · obtain ⟨_, _, _, _, _, _, _, his, _⟩ := dd
    exact nestedKind_stays.tuple (his x hx)
  · have hf : H s.heap.objs.size = none := I.hok.fresh (Nat.le_refl _)
    obtain ⟨o', es', ep', g1, g2, g3, g4, g5, g6⟩ := hd'
    refine ⟨.ref s.heap.objs.size, _, I.laid (t' := s.toks) (fun b u e => ?_) (Nat.le_refl _) (memO_ok ⟨o', es', ep', g1, g2, g3, g4⟩), rfl, q _ _ hf (beq_eq_false_iff_ne.mpr (Ne.symm (Nat.ne_of_lt I.big))) h3 h4 rfl⟩
    exact (hs'.2 b (Nat.ne_of_lt (Heap.lt_size e))).trans (Heap.get?_push_of_some _ e)
end
end BW
/-! BCore102: what expressions over a dict told whole tell, its address told in a slot. -/
namespace BW
open PySem PySem.Spec PyProof.Rows L2
open Evl (Ex Ex.refl Ex.trans Ex.new ex_rd ex_l ex_t)
def fZ (a : Addr) (i : Nat) (r : R D) : F := fun env => match env[i]? with
  | some (.im (.adr b)) => if b = a then r else .no
  | _ => .no
theorem fZ_ok {K : PySem.W.Frag} {A H0 I H : Hp} {env : En} {σ : L2.St} {a : Addr} {i : Nat} {r : R D} {Z : R D → Prop} (rl : Rel K A H0 env σ I H) (hn : ¬ Z .no) (q : Z (fZ a i r env)) : σ[i]? = some (some (V.ref a)) ∧ Z r := by
  unfold fZ at q
  split at q
  · rename_i b hb
    obtain ⟨v, h1, h2⟩ := rl.im i _ hb
    cases h2
    by_cases c : b = a
    · subst c
      rw [if_pos rfl] at q
      exact ⟨h1, q⟩
    · rw [if_neg c] at q
      exact absurd q hn
  · exact absurd q hn
theorem fZ_at {a : Addr} {i : Nat} {r : R D} {env : En} (h : env[i]? = some (.im (.adr a))) : fZ a i r env = r := by
  unfold fZ
  rw [h]
  exact if_pos rfl
def lenR (kvs : PK) : R D := if kvs.length ≤ 1000 then .ok (.int kvs.length) else .no
def minR (kvs : PK) : R D := match minZ kvs with
  | some k => .ok (pkD k)
  | none => .no
def keysR (kvs : PK) : R D := if kvs.length ≤ 1000 then .ok (.lst (kvs.map fun x => pkD x.1)) else .no
def itemsR (kvs : PK) : R D := if kvs.length ≤ 1000 then .ok (.lst (kvs.map fun x => .tup [pkD x.1, .int x.2])) else .no
def getR (kvs : PK) : D → R D
  | .tup [.int p, .int q] => match lkZ kvs (p, q) with
    | some n => .ok (.int n)
    | none => .no
  | _ => .no
theorem getR_inv {kvs : PK} {d r : D} (h : getR kvs d = .ok r) : ∃ p n, d = pkD p ∧ lkZ kvs p = some n ∧ r = .int n := by
  unfold getR at h
  split at h <;> try (cases h; done)
  rename_i p q
  split at h <;> try (cases h; done)
  rename_i n hn
  cases h
  exact ⟨(p, q), n, rfl, hn, rfl⟩
theorem getR_er {kvs : PK} {d : D} {c : Nat} {l : List D} (h : getR kvs d = .er c l) : False := by
  unfold getR at h
  split at h <;> try (cases h; done)
  split at h <;> cases h
def tGetZ (X : Cx) (td ty : TE) : TE := fun σ H Q => td σ H fun x H1 => ty σ H1 fun y H2 => ∃ a b I kvs p n, x = .ref a ∧ y = .ref b ∧ Ex I H2 ∧ Fz X.prog X.w X.K I a kvs ∧ Rd X.K I (.ref b) (pkD p) ∧ lkZ kvs p = some n ∧ Q (.int n) H2
theorem pe_getZ {X : Cx} {o i : Expr} {pos : Pos} {td ty : TE} (hu : X.A.units + 64 < cLine) (ho : PE X o td) (hi : PE X i ty) (hs : NoSl i) : PE X (.Subscript o i pos) (tGetZ X td ty) := by
  refine ⟨fun pins s σ H Q I h => ?_⟩
  refine subD_of PySem.F.slot_dict_getitem.lookup hs (thn (ho.run pins s σ H _ I h) fun u s1 ⟨x, H1, I1, rx, q1⟩ => thn (hi.run pins s1 σ H1 _ I1 q1) fun iv s2 ⟨y, H2, I2, ry, a, b, J, kvs, p, n, e1, e2, ie, z, r, hl, q2⟩ => ?_)
  subst e1 e2
  obtain rfl : u = Value.ref a := rx
  obtain rfl : iv = Value.ref b := ry
  obtain ⟨xs, ob, h1, h2, h3, h4, rfl⟩ := z.ex
  obtain ⟨hgd, dd⟩ := fz_dict h1 h3 h4 ie I2.hok
  have k1 : (nestedKind X.prog X.w).is s2.heap (pkK p) b := ⟨nk_is ie I2.hok (pkD p) (pkK p) _ _ nk_pk r rfl, (nk8_some (nk8_pk (p := p))).2⟩
  have lk := lk_at (p := p) h4
  rw [hl] at lk
  obtain ⟨pp, hp, hv⟩ := Option.map_eq_some_iff.mp lk
  have hx : ∃ x ∈ xs, x.2 = pp := by
    unfold atKey at hp
    obtain ⟨x, g1, g2⟩ := Option.map_eq_some_iff.mp hp
    exact ⟨x, List.mem_of_find?_eq_some g1, g2⟩
  obtain ⟨x, hx, rfl⟩ := hx
  obtain ⟨_, m, t, _, _, e3⟩ := h4 x hx
  have hv : vP x.2.2 = n := hv
  rw [e3] at hv
  have hv : m = n := hv
  subst hv
  exact ⟨dd.typeIs, wpAny_getItem_heap (mroom hu) k1 dd hp ⟨.int m, H2, I2.tok _, by rw [e3]; exact ⟨t, rfl⟩, q2⟩⟩
section
variable {X : Cx} {W : WX} {A H0 : Hp} {a : Addr} {kvs : PK} {pos p p2 apos cpos : Pos} {x : Str}
theorem ve_lenZ (hA : Fz X.prog X.w X.K A a kvs) (i : Nat) (hm : X.mg "len" = none) (hN : X.N[i]? = some x := by rfl) (hv : Vis X.env.scope x := by first | exact Or.inl rfl | exact Or.inr (Or.inl rfl) | exact Or.inr (Or.inr rfl)) (hd : (x == ("__debug__" : Str)) = false := by decide) (hcd : (x == ("__classdict__" : Str)) = false := by decide)
    (hb : bootBuiltins "len" = some (.builtin "len") := by decide +kernel) (hg : Gl X "len" := by rfl) (he : starEach (.Name x p2 :: []) X.env = (false, eval (.Name x p2) X.env) :: starEach [] X.env := by rfl) (hpl : (backTo pos (starEach [] X.env)).any (·.1) = false := by rfl) :
    VE X W A H0 (.Call (.Name "len" p) (.Name x p2 :: []) [] pos) (fZ a i (lenR kvs)) := pe_imp (pe_callB call_lenZ hg hm hb (pa_cons (pe_var hN hv hd hcd) pa_nil he) (by decide) (by decide) he hpl) fun σ H Q ⟨env, I, rl, q⟩ => by
  obtain ⟨h1, q⟩ := fZ_ok (Z := fun r => PostE X.K W σ I H r Q) rl (fun z => z) q
  unfold lenR at q
  by_cases c : kvs.length ≤ 1000
  · rw [if_pos c] at q
    exact ⟨.ref a, h1, a, I, kvs, rfl, rl.g.ih, hA.mono rl.g.i, c, q _ I H (Grow.refl rl.g.ih) .int⟩
  · rw [if_neg c] at q
    exact q.elim
theorem ve_minZ (hA : Fz X.prog X.w X.K A a kvs) (i : Nat) (hc : X.calm = true) (hu : X.A.units + 64 < cLine) (hm : X.mg "min" = none) (hN : X.N[i]? = some x := by rfl) (hv : Vis X.env.scope x := by first | exact Or.inl rfl | exact Or.inr (Or.inl rfl) | exact Or.inr (Or.inr rfl)) (hd : (x == ("__debug__" : Str)) = false := by decide) (hcd : (x == ("__classdict__" : Str)) = false := by decide)
    (hb : bootBuiltins "min" = some (.builtin "min") := by decide +kernel) (hg : Gl X "min" := by rfl) (he : starEach (.Name x p2 :: []) X.env = (false, eval (.Name x p2) X.env) :: starEach [] X.env := by rfl) (hpl : (backTo pos (starEach [] X.env)).any (·.1) = false := by rfl) :
    VE X W A H0 (.Call (.Name "min" p) (.Name x p2 :: []) [] pos) (fZ a i (minR kvs)) := pe_imp (pe_callB (call_minZ hc hu) hg hm hb (pa_cons (pe_var hN hv hd hcd) pa_nil he) (by decide) (by decide) he hpl) fun σ H Q ⟨env, I, rl, q⟩ => by
  obtain ⟨h1, q⟩ := fZ_ok (Z := fun r => PostE X.K W σ I H r Q) rl (fun z => z) q
  unfold minR at q
  cases hk : minZ kvs with
  | none => rw [hk] at q; exact q.elim
  | some k =>
    rw [hk] at q
    exact ⟨.ref a, h1, a, I, kvs, k, rfl, rl.g.ih, hA.mono rl.g.i, hk, fun b r => q _ I H (Grow.refl rl.g.ih) r⟩
theorem ve_getZ (hA : Fz X.prog X.w X.K A a kvs) (i : Nat) {ek : Expr} {fk : F} (hu : X.A.units + 64 < cLine) (hk : VE X W A H0 ek fk) (hs : NoSl ek) (hN : X.N[i]? = some x := by rfl) (hv : Vis X.env.scope x := by first | exact Or.inl rfl | exact Or.inr (Or.inl rfl) | exact Or.inr (Or.inr rfl)) (hd : (x == ("__debug__" : Str)) = false := by decide) (hcd : (x == ("__classdict__" : Str)) = false := by decide) :
    VE X W A H0 (.Subscript (.Name x p) ek pos) (f2 (fun _ d => getR kvs d) (fZ a i (.ok .non)) fk) := pe_imp (pe_getZ hu (pe_var hN hv hd hcd) hk hs) fun σ H Q ⟨env, I, rl, q⟩ => by
  obtain ⟨h1, q⟩ := fZ_ok (Z := fun r => PostE X.K W σ I H (r.bind fun x => (fk env).bind fun y => getR kvs y) Q) rl (fun z => z) q
  have q : PostE X.K W σ I H ((fk env).bind fun y => getR kvs y) Q := q
  refine ⟨.ref a, h1, env, I, rl, ?_⟩
  cases hf : fk env with
  | er c p => rw [hf] at q; exact q
  | no => rw [hf] at q; exact q.elim
  | ok d =>
    rw [hf] at q
    have q : PostE X.K W σ I H (getR kvs d) Q := q
    cases hg : getR kvs d with
    | no => rw [hg] at q; exact q.elim
    | er c p => exact (getR_er hg).elim
    | ok r =>
      rw [hg] at q
      obtain ⟨k, n, rfl, g1, rfl⟩ := getR_inv hg
      intro v I1 H1 g rv
      obtain ⟨b, rfl⟩ : ∃ b, v = .ref b := by cases rv; exact ⟨_, rfl⟩
      exact ⟨a, b, I1, kvs, k, n, rfl, rfl, g.ih, (hA.mono rl.g.i).mono g.i, rv, g1, q _ I1 H1 g .int⟩
theorem rda_keys {K : PySem.W.Frag} {I : Hp} : ∀ {xs : MX}, (∀ x ∈ xs, EnP K I x) → RdA K I (xs.map fun y => V.ref y.2.1) ((pkOf xs).map fun x => pkD x.1)
  | [], _ => .nil
  | x :: xs, h => .cons (by
    have e := h x List.mem_cons_self
    have f := e.fst
    obtain ⟨p, n, t, e1, e2, e3⟩ := e
    rw [e1] at f
    show Rd K I _ (pkD (enP x).1)
    rw [← pkK_inj f]
    exact e2) (rda_keys fun y hy => h y (List.mem_cons_of_mem _ hy))
theorem vf_lkZ (hA : Fz X.prog X.w X.K A a kvs) (i : Nat) (hc : X.calm = true) (hm : X.mg "list" = none) (hN : X.N[i]? = some x := by rfl) (hv : Vis X.env.scope x := by first | exact Or.inl rfl | exact Or.inr (Or.inl rfl) | exact Or.inr (Or.inr rfl)) (hd : (x == ("__debug__" : Str)) = false := by decide) (hcd : (x == ("__classdict__" : Str)) = false := by decide)
    (hg : Gl X "list" := by rfl) (hbase : attributeBase (.Name x p2) "keys" X.env (eval (.Name x p2) X.env) = eval (.Name x p2) X.env := by rfl) (hline : (apos.endLine == cpos.line) = true := by rfl)
    (hs : starEach [.Call (.Attribute (.Name x p2) "keys" apos) [] [] cpos] X.env = (false, eval (.Call (.Attribute (.Name x p2) "keys" apos) [] [] cpos) X.env) :: starEach [] X.env := by rfl) :
    VF X W A H0 (.Call (.Name "list" p) [.Call (.Attribute (.Name x p2) "keys" apos) [] [] cpos] [] pos) (fZ a i (keysR kvs)) := pe_imp (pe_lkz hc (pe_var hN hv hd hcd) hg hm (by decide +kernel) hbase hline hs) fun σ H Q ⟨env, I, rl, q⟩ => by
  obtain ⟨h1, q⟩ := fZ_ok (Z := fun r => PostF X.K W σ I H r Q) rl (fun z => z) q
  unfold keysR at q
  by_cases c : kvs.length ≤ 1000
  · rw [if_pos c] at q
    obtain ⟨xs, o, g1, g2, g3, g4, rfl⟩ := (hA.mono rl.g.i).ex
    have c : (pkOf xs).length ≤ 1000 := c
    unfold pkOf at c
    rw [List.length_map] at c
    refine ⟨.ref a, h1, a, o, xs, rfl, rl.g.ih _ _ g1, g2, by rw [PySem.sizeLine_eq]; omega, fun l hl => ?_⟩
    exact q l _ I _ (Grow.hid rl.g.ih (Ex.new hl)) hl (Evl.fresh_back rl.g.ih hl) upd_same (rda_keys g4)
  · rw [if_neg c] at q
    exact q.elim
theorem serves_kz {P : Program} {w : World} {K : PySem.W.Frag} {I : Hp} {o : Obj} {xs : MX} (h : I a = some (.frz o (memO P w a xs))) (h4 : ∀ x ∈ xs, EnP K I x) : Serves K (ItKz P w a o xs) ((pkOf xs).map fun x => pkD x.1) I := by
  have hl : ((pkOf xs).map fun x => pkD x.1).length = xs.length := by unfold pkOf; rw [List.length_map, List.length_map]
  unfold Serves
  rw [hl]
  refine ⟨fun i H' hi e => ⟨e _ _ h, hi⟩, fun H' e => ⟨e _ _ h, Nat.le_refl _⟩, fun i H' x H'' hi e ⟨y1, y, hy, y2⟩ => ?_⟩
  subst y1 y2
  obtain ⟨v, g1, g2⟩ := (rda_keys h4).getV (i := i) (v := V.ref y.2.1) (by rw [List.getElem?_map, hy]; rfl)
  exact ⟨v, g1, .inl ⟨rfl, g2⟩⟩
theorem vi_keyZ (hA : Fz X.prog X.w X.K A a kvs) (i : Nat) {tg : Expr} (hN : X.N[i]? = some x := by rfl) (hv : Vis X.env.scope x := by first | exact Or.inl rfl | exact Or.inr (Or.inl rfl) | exact Or.inr (Or.inr rfl)) (hd : (x == ("__debug__" : Str)) = false := by decide) (hcd : (x == ("__classdict__" : Str)) = false := by decide) :
    VI X W A H0 tg (.Name x p) (fZ a i (keysR kvs)) := pi_imp (pi_kz (pe_var hN hv hd hcd)) fun σ H R ⟨env, I, rl, q⟩ => by
  obtain ⟨h1, q⟩ := fZ_ok (Z := fun r => PostI X.K W σ I H r R) rl (fun z => z) q
  unfold keysR at q
  by_cases c : kvs.length ≤ 1000
  · rw [if_pos c] at q
    obtain ⟨xs, o, g1, g2, g3, g4, rfl⟩ := (hA.mono rl.g.i).ex
    exact ⟨.ref a, h1, a, o, xs, rfl, rl.g.ih _ _ g1, g2, q _ I H (Grow.refl rl.g.ih) (serves_kz g1 g4)⟩
  · rw [if_neg c] at q
    exact q.elim
theorem serves_iz {P : Program} {w : World} {K : PySem.W.Frag} {I : Hp} {o : Obj} {xs : MX} (h : I a = some (.frz o (memO P w a xs))) (h4 : ∀ x ∈ xs, EnP K I x) : Serves K (ItIz P w a o xs) ((pkOf xs).map fun x => D.tup [pkD x.1, .int x.2]) I := by
  have hl : ((pkOf xs).map fun x => D.tup [pkD x.1, .int x.2]).length = xs.length := by unfold pkOf; rw [List.length_map, List.length_map]
  unfold Serves
  rw [hl]
  refine ⟨fun i H' hi e => ⟨e _ _ h, hi⟩, fun H' e => ⟨e _ _ h, Nat.le_refl _⟩, fun i H' x H'' hi e ⟨T, y, hy, y1, hT, y2⟩ => ?_⟩
  subst y1 y2
  obtain ⟨v, g1, g2⟩ := (rda_keys h4).getV (i := i) (v := V.ref y.2.1) (by rw [List.getElem?_map, hy]; rfl)
  have iT : I T = none := Evl.fresh_back e hT
  have g3 : ((pkOf xs).map fun x => pkD x.1)[i]? = some (pkD (enP y).1) := by unfold pkOf; rw [List.map_map, List.getElem?_map, hy]; rfl
  rw [g3] at g1
  cases g1
  refine ⟨.tup [pkD (enP y).1, .int (vP y.2.2)], ?_, .inr ⟨T, _, hT, rfl, .tup (.new rfl) (.cons (g2.mono (Ex.new iT)) (.cons .int .nil))⟩⟩
  unfold pkOf
  rw [List.map_map, List.getElem?_map, hy]
  rfl
theorem vi_itemZ (hA : Fz X.prog X.w X.K A a kvs) (i : Nat) {elts : List Expr} {kk : Nat} {tpos : Pos} (hN : X.N[i]? = some x := by rfl) (hv : Vis X.env.scope x := by first | exact Or.inl rfl | exact Or.inr (Or.inl rfl) | exact Or.inr (Or.inr rfl)) (hd : (x == ("__debug__" : Str)) = false := by decide) (hcd : (x == ("__classdict__" : Str)) = false := by decide)
    (hbase : attributeBase (.Name x p) "items" X.env (eval (.Name x p) X.env) = eval (.Name x p) X.env := by rfl) (hline : (apos.endLine == cpos.line) = true := by rfl) :
    VI X W A H0 (.Tuple elts kk tpos) (.Call (.Attribute (.Name x p) "items" apos) [] [] cpos) (fZ a i (itemsR kvs)) := pi_imp (pi_iz (pe_var hN hv hd hcd) hbase hline) fun σ H R ⟨env, I, rl, q⟩ => by
  obtain ⟨h1, q⟩ := fZ_ok (Z := fun r => PostI X.K W σ I H r R) rl (fun z => z) q
  unfold itemsR at q
  by_cases c : kvs.length ≤ 1000
  · rw [if_pos c] at q
    obtain ⟨xs, o, g1, g2, g3, g4, rfl⟩ := (hA.mono rl.g.i).ex
    exact ⟨.ref a, h1, a, o, xs, rfl, rl.g.ih _ _ g1, g2, fun y hy => let ⟨_, n, t, _, _, e⟩ := g4 y hy; ⟨n, t, e⟩, q _ I H (Grow.refl rl.g.ih) (serves_iz g1 g4)⟩
  · rw [if_neg c] at q
    exact q.elim
end
end BW
/-! BCore103: a def that makes such a dict out of one that is told whole. -/
namespace BW
open PySem PySem.Spec PyProof.Rows L2
open Evl (Ex Ex.refl Ex.trans Ex.new ex_rd ex_l ex_t)
/-! ### what holds for any start, a dict told whole there -/
section
variable {X : Cx} {W : WX} {st : Stmt} {sts : List Stmt} {e tg : Expr}
def tSZ (X : Cx) (W : WX) (g : Addr → PK → G) : TS := fun Z σ H => ∃ A H0 a kvs, Fz X.prog X.w X.K A a kvs ∧ rdS X.K W A H0 false (g a kvs) Z σ H
theorem ps_anyZ {g : Addr → PK → G} (h : ∀ A H0 a kvs, Fz X.prog X.w X.K A a kvs → VS X W A H0 false st (g a kvs)) : PS X st (tSZ X W g) := ⟨fun pins s σ H Z I ⟨A, H0, a, kvs, z, q⟩ => (h A H0 a kvs z).run pins s σ H Z I q⟩
theorem pss_anyZ {g : Addr → PK → G} (h : ∀ A H0 a kvs, Fz X.prog X.w X.K A a kvs → VSs X W A H0 false sts (g a kvs)) : PSs X sts (tSZ X W g) := ⟨fun pins s σ H Z I ⟨A, H0, a, kvs, z, q⟩ => (h A H0 a kvs z).run pins s σ H Z I q⟩
def tIZ (X : Cx) (W : WX) (f : Addr → PK → F) : TI := fun σ H R => ∃ A H0 a kvs, Fz X.prog X.w X.K A a kvs ∧ rdI X.K W A H0 (f a kvs) σ H R
theorem pi_anyZ {f : Addr → PK → F} (h : ∀ A H0 a kvs, Fz X.prog X.w X.K A a kvs → VI X W A H0 tg e (f a kvs)) : PI X tg e (tIZ X W f) := ⟨fun pins s σ H R I ⟨A, H0, a, kvs, z, q⟩ => (h A H0 a kvs z).run pins s σ H R I q⟩
def tEZ (X : Cx) (W : WX) (f : Addr → PK → F) : TE := fun σ H Q => ∃ A H0 a kvs, Fz X.prog X.w X.K A a kvs ∧ rdE X.K W A H0 (f a kvs) σ H Q
theorem pe_anyZ {f : Addr → PK → F} (h : ∀ A H0 a kvs, Fz X.prog X.w X.K A a kvs → VE X W A H0 e (f a kvs)) : PE X e (tEZ X W f) := ⟨fun pins s σ H R I ⟨A, H0, a, kvs, z, q⟩ => (h A H0 a kvs z).run pins s σ H R I q⟩
def tGa (X : Cx) (ts : List Nat) (t : FT) : TG := fun v σ H Q => ∃ A H0, rdG X.K A H0 ts t v σ H Q
theorem tS_nxE {val : D → D → Prop} {a : Addr} {I0 Hs I H : Hp} {env : En} {σ : L2.St} {xs : MX} {g : G} (m : RM X.prog X.w X.K val a I0 Hs env σ I H xs) {e : En} (hg : g env = .nx e) (ho : ∀ (i : Nat) (s : Sl), e[i]? = some s → s = .no ∨ ∃ d, s = .im d) {Z : Ends} (k : ∀ σ' I' H', RM X.prog X.w X.K val a I0 Hs e σ' I' H' xs → Ex I I' → Z.nx σ' H') : tS X W g Z σ H :=
  ⟨I, H, env, I, m.rel, by rw [hg]; exact fun σ' I' H' r _ => k σ' I' H' (m.of_rel r ho) r.g.i⟩
theorem tE_okE {val : D → D → Prop} {a : Addr} {I0 Hs I H : Hp} {env : En} {σ : L2.St} {xs : MX} {f : F} (m : RM X.prog X.w X.K val a I0 Hs env σ I H xs) {d : D} (hf : f env = .ok d) {Q : VK} (k : ∀ v I' H', RM X.prog X.w X.K val a I0 Hs env σ I' H' xs → Ex I I' → Rd X.K I' v d → Q v H') : tEa X W f σ H Q :=
  ⟨I, H, env, I, m.rel, by rw [hf]; exact fun v I' H' g' r => k v I' H' (m.grow g') g'.i r⟩
theorem tT_okE {val : D → D → Prop} {a : Addr} {I0 Hs I H : Hp} {env : En} {σ : L2.St} {xs : MX} {f : F} (m : RM X.prog X.w X.K val a I0 Hs env σ I H xs) {b : Bool} (hf : f env = .ok (.bl b)) {Q : Bool → Hp → Prop} (k : ∀ I' H', RM X.prog X.w X.K val a I0 Hs env σ I' H' xs → Ex I I' → Q b H') : tTa X W f σ H Q :=
  ⟨I, H, env, I, m.rel, by rw [hf]; exact fun I' H' g' => k I' H' (m.grow g') g'.i⟩
theorem pg_any {ts : List Nat} {t : FT} (h : ∀ A H0, VG X A H0 tg ts t) : PG X tg (tGa X ts t) := ⟨fun pins s σ H v y Q I r ⟨A, H0, q⟩ => (h A H0).run pins s σ H v y Q I r q⟩
end
/-! ### a changing dict that is new -/
section
variable {P : Program} {w : World} {K : PySem.W.Frag} {A H0 I H Hs I0 : Hp} {env : En} {σ : L2.St} {b : Addr} {xs : MX}
theorem less1_new (h : H b = none) : less1 H b = H := by
  funext c
  by_cases y : c = b
  · rw [y, less1_eq, h]
  · rw [less1_ne y]
theorem rm_new (rl : Rel K A H0 env σ I H) (ho : ∀ (i : Nat) (s : Sl), env[i]? = some s → s = .no ∨ ∃ d, s = .im d) (hb : H b = none) (ns : (b == sysModules) = false) (nd : (xs.map (·.1)).Nodup) (he : ∀ x ∈ xs, EnP K I x) (i : Nat) (hi : i < env.length) :
    RM P w K valP b A H0 (env.set i (.im (.adr b))) (σ.set i (some (.ref b))) I (upd H b (memO P w b xs)) xs ∧ H0 b = none := by
  have h1 : I b = none := Evl.fresh_back rl.g.ih hb
  have h0 : H0 b = none := Evl.fresh_back rl.g.h hb
  refine ⟨⟨by rw [List.length_set, List.length_set]; exact rl.len, fun j d e => ?_, fun j s e => ?_, fun c o z => ?_, ?_, ⟨upd_same, h1, ns, nd, fun x hx => mm_en (he x hx)⟩⟩, h0⟩
  · rcases set_get e with ⟨rfl, z⟩ | ⟨hij, z⟩
    · cases z
      exact ⟨.ref b, List.getElem?_set_self (by rw [rl.len]; exact hi), .adr⟩
    · rw [List.getElem?_set_ne hij]
      exact rl.im j d z
  · rcases set_get e with ⟨_, z⟩ | ⟨_, z⟩
    · exact .inr ⟨_, z⟩
    · exact ho j s z
  · rw [upd_ne fun y => by rw [y, h1] at z; cases z]
    exact rl.g.ih c o z
  · rw [less1_upd, less1_new h0, less1_new hb]
    exact rl.g
/-- it is told whole -/
theorem rm_frz (m : RM P w K valP b I0 Hs env σ I H xs) (h0 : Hs b = none) (o : Obj) (ys : MX) (nd : (ys.map (·.1)).Nodup) (he : ∀ y ∈ ys, EnP K I y) : Grow I0 Hs (upd I b (.frz o (memO P w b ys))) (upd H b (.frz o (memO P w b ys))) ∧ Fz P w K (upd I b (.frz o (memO P w b ys))) b (pkOf ys) ∧ Ex I (upd I b (.frz o (memO P w b ys))) := by
  have g := m.gr
  rw [less1_new h0] at g
  have e1 : Ex I (upd I b (.frz o (memO P w b ys))) := Ex.new m.mm.fr
  refine ⟨⟨g.i.trans e1, fun c u z => ?_, fun c u z => ?_, fun c u z => ?_⟩, ⟨ys, o, upd_same, m.mm.ns, nd, fun y hy => (he y hy).mono e1, rfl⟩, e1⟩
  · have k := g.h c u z
    have nc : c ≠ b := fun y => by rw [y, less1_eq] at k; cases k
    rw [less1_ne nc] at k
    rw [upd_ne nc]
    exact k
  · by_cases nc : c = b
    · subst nc
      rw [upd_same] at z ⊢
      exact z
    · rw [upd_ne nc] at z ⊢
      exact m.ex c u z
  · by_cases nc : c = b
    · subst nc
      exact .inr h0
    · rw [upd_ne nc] at z
      exact g.new c u z
end
theorem rel_int {v : V} {n : Int} {t : Tok} (h : RelV v (Value.int n t)) : v = .int n := by
  cases v <;> first | (obtain ⟨_, h⟩ := h; cases h; rfl) | (obtain ⟨_, h⟩ := h; cases h; done) | (cases h; done)
/-! ### the tables -/
def rnZ (a b x : Int) : Int := cond (decide (x = b)) a x
def nrZ (t : Int × Int) : Int × Int := (min t.1 t.2, max t.1 t.2)
def addZ (l : PK) (k : Int × Int) (m : Int) : PK := putZ l k ((lkZ l k).getD 0 + m)
def moZ (l : PK) (p q : Int) : PK := l.foldl (fun acc x => addZ acc (nrZ (rnZ p q x.1.1, rnZ p q x.1.2)) x.2) []
theorem addZ_len (l : PK) (k : Int × Int) (m : Int) : (addZ l k m).length ≤ l.length + 1 := by
  unfold addZ putZ
  split
  · rw [List.length_map]
    omega
  · rw [List.length_append]
    exact Nat.le_refl _
def fmy : F := fIf (f2 eqD (fI 8) (fI 2)) (fI 1) (fI 8)
def gmB0 : G := gSet 6 (fLs (fLc (f1 seqD (fI 4)) (tN 8) (fC (.bl true)) fmy [8]))
def gmB1 : G := gSet 7 (fA tupD (aCons (fA minD (aCons (fI 6) aNil)) (aCons (fA maxD (aCons (fI 6) aNil)) aNil)))
def moE (a b : Addr) (p q : Int) (s4 s5 s6 s7 : Sl) : En := [.im (.adr a), .im (.int p), .im (.int q), .im (.adr b), s4, s5, s6, s7, .no]
theorem mo_only {a b : Addr} {p q : Int} {s4 s5 s6 s7 : Sl} (h4 : okS1 s4) (h5 : okS1 s5) (h6 : okS1 s6) (h7 : okS1 s7) : ∀ (i : Nat) (t : Sl), (moE a b p q s4 s5 s6 s7)[i]? = some t → t = .no ∨ ∃ d, t = .im d := by
  intro i t h
  match i, h with
  | 0, h => cases h; exact .inr ⟨_, rfl⟩
  | 1, h => cases h; exact .inr ⟨_, rfl⟩
  | 2, h => cases h; exact .inr ⟨_, rfl⟩
  | 3, h => cases h; exact .inr ⟨_, rfl⟩
  | 4, h => cases h; exact h4
  | 5, h => cases h; exact h5
  | 6, h => cases h; exact h6
  | 7, h => cases h; exact h7
  | 8, h => cases h; exact .inl rfl
  | _ + 9, h => cases h
theorem mo_ke {a b : Addr} {p q : Int} {s4 s5 s6 s7 : Sl} : KeE (moE a b p q s4 s5 s6 s7) (moE a b p q .no .no .no .no) := by
  refine ⟨rfl, fun i s h => ?_⟩
  match i, h with
  | 0, h => cases h; exact .inr rfl
  | 1, h => cases h; exact .inr rfl
  | 2, h => cases h; exact .inr rfl
  | 3, h => cases h; exact .inr rfl
  | 4, h => cases h; exact .inl rfl
  | 5, h => cases h; exact .inl rfl
  | 6, h => cases h; exact .inl rfl
  | 7, h => cases h; exact .inl rfl
  | 8, h => cases h; exact .inl rfl
  | _ + 9, h => cases h
theorem gmB0_ok {a b : Addr} {p q n : Int} {k : Int × Int} : gmB0 (moE a b p q (.im (pkD k)) (.im (.int n)) .no .no) = .nx (moE a b p q (.im (pkD k)) (.im (.int n)) (.im (.lst [.int (rnZ p q k.1), .int (rnZ p q k.2)])) .no) := by
  have e : ∀ x : Int, fmy ((wipeE (moE a b p q (.im (pkD k)) (.im (.int n)) .no .no) [8]).set 8 (.im (.int x))) = .ok (.int (rnZ p q x)) := fun x => by
    show cond (decide (x = q)) (R.ok (D.int p)) (R.ok (D.int x)) = _
    unfold rnZ
    cases decide (x = q) <;> rfl
  have l : lcF (tN 8) (fC (.bl true)) fmy (wipeE (moE a b p q (.im (pkD k)) (.im (.int n)) .no .no) [8]) [.int k.1, .int k.2] = .ok [.int (rnZ p q k.1), .int (rnZ p q k.2)] := by
    show (fmy ((wipeE (moE a b p q (.im (pkD k)) (.im (.int n)) .no .no) [8]).set 8 (.im (.int k.1)))).bindQ (fun y => ((fmy ((wipeE (moE a b p q (.im (pkD k)) (.im (.int n)) .no .no) [8]).set 8 (.im (.int k.2)))).bindQ fun y2 => (R.ok ([] : List D)).bindQ fun r => R.ok (y2 :: r)).bindQ fun r => R.ok (y :: r)) = _
    rw [e, e]
    rfl
  have z : fLc (f1 seqD (fI 4)) (tN 8) (fC (.bl true)) fmy [8] (moE a b p q (.im (pkD k)) (.im (.int n)) .no .no) = .ok (.lst [.int (rnZ p q k.1), .int (rnZ p q k.2)]) := by
    show (if [D.int k.1, D.int k.2].length ≤ 16777216 then (lcF (tN 8) (fC (.bl true)) fmy (wipeE (moE a b p q (.im (pkD k)) (.im (.int n)) .no .no) [8]) [D.int k.1, D.int k.2]).bindQ fun r => R.ok (D.lst r) else R.no) = _
    rw [if_pos (show ([D.int k.1, D.int k.2] : List D).length ≤ 16777216 from (by decide : 2 ≤ 16777216)), l]
    rfl
  show SR.of _ ((fLc (f1 seqD (fI 4)) (tN 8) (fC (.bl true)) fmy [8] (moE a b p q (.im (pkD k)) (.im (.int n)) .no .no)).bind lsD) _ = _
  rw [z]
  rfl
theorem gmB1_ok {a b : Addr} {p q n x y : Int} {k : Int × Int} : gmB1 (moE a b p q (.im (pkD k)) (.im (.int n)) (.im (.lst [.int x, .int y])) .no) = .nx (moE a b p q (.im (pkD k)) (.im (.int n)) (.im (.lst [.int x, .int y])) (.im (pkD (nrZ (x, y))))) := rfl
/-- what the def is handed, what it hands back -/
def spMo (P : Program) (w : World) (K : PySem.W.Frag) : Sp := fun vs H Q E => ∃ (a : Addr) (I : Hp) (kvs : PK) (p q : Int), vs = [.ref a, .int p, .int q] ∧ Ex I H ∧ Fz P w K I a kvs ∧ kvs.length ≤ 1000 ∧ ∀ b I' H', Grow I H I' H' → Fz P w K I' b (moZ kvs p q) → Q (.ref b) H'
def tMo (X : Cx) : TS := fun Z σ H => ∃ a I kvs p q, Rel X.K I H [.im (.adr a), .im (.int p), .im (.int q), .no, .no, .no, .no, .no, .no] σ I H ∧ Fz X.prog X.w X.K I a kvs ∧ kvs.length ≤ 1000 ∧ ∀ b I' H', Grow I H I' H' → Fz X.prog X.w X.K I' b (moZ kvs p q) → Z.rt (.ref b) H'
section
variable {X : Cx} {W : WX} {tg ei e0 : Expr} {stB0 stB1 : Stmt} {p1 p2 p3 p4 p5 p6 p7 p8 p9 p10 p11 p12 p13 p14 ap cp : Pos}
theorem pss_mo (hN : X.N = [("counts" : Str), "one", "two", "found", "pair", "many", "ends", "other", "place"])
    (vi : ∀ A H0 a kvs, Fz X.prog X.w X.K A a kvs → VI X W A H0 tg ei (fZ a 0 (itemsR kvs))) (vg : ∀ A H0, VG X A H0 tg [4, 5] (tT 2 (tsCons (tN 4) (tsCons (tN 5) tsNil)))) (v0 : ∀ A H0, VS X W A H0 false stB0 gmB0) (v1 : ∀ A H0, VS X W A H0 false stB1 gmB1) (vz : ∀ A H0, VE X W A H0 e0 (fC (.int 0)))
    (hu : X.A.units + 64 < cLine) (hp : PassesOwn (model X.prog X.w) X.A X.env X.xe) (hc : X.calm = true)
    (w3 : Vis X.env.scope "found" := by first | exact Or.inl rfl | exact Or.inr (Or.inl rfl) | exact Or.inr (Or.inr rfl)) (l3 : Loc X.env.scope "found" := by first | exact .inl rfl | exact .inr rfl) (f3 : X.fn "found" = true ∨ X.env.scope.names.lookup ("found" : Str) = some NameKind.local := by first | exact .inl rfl | exact .inr rfl)
    (w5 : Vis X.env.scope "many" := by first | exact Or.inl rfl | exact Or.inr (Or.inl rfl) | exact Or.inr (Or.inr rfl)) (w7 : Vis X.env.scope "other" := by first | exact Or.inl rfl | exact Or.inr (Or.inl rfl) | exact Or.inr (Or.inr rfl))
    (hfs : ∀ x, foldedSetIterable ei X.env x = pure x := by intro _; rfl) (m2 : M2 X (.Name "found" p7) "get" ap (.Name "other" p8) e0 cp := by exact ⟨rfl, rfl, rfl, rfl⟩)
    (s1 : swapsWith (.Dict [] [] p1) (some (.Name "found" p2)) p3.line X.env = pure false := by rfl) (s2 : swapsWith (.BinOp (.Call (.Attribute (.Name "found" p7) "get" ap) [.Name "other" p8, e0] [] cp) .Add (.Name "many" p9) p10) (some (.Subscript (.Name "found" p4) (.Name "other" p5) p6)) p11.line X.env = pure false := by rfl) :
    PSs X [.Assign [.Name "found" p2] (.Dict [] [] p1) p3, .For tg ei [stB0, stB1, .Assign [.Subscript (.Name "found" p4) (.Name "other" p5) p6] (.BinOp (.Call (.Attribute (.Name "found" p7) "get" ap) [.Name "other" p8, e0] [] cp) .Add (.Name "many" p9) p10) p11] [] p12, .Return (some (.Name "found" p13)) p14] (tMo X) := by
  have hNd : X.N.Nodup := by rw [hN]; decide
  have q3 : ∀ p, PE X (.Name "found" p) (tVar 3) := fun p => pe_var (by rw [hN]; rfl) w3
  have q5 : ∀ p, PE X (.Name "many" p) (tVar 5) := fun p => pe_var (by rw [hN]; rfl) w5
  have q7 : ∀ p, PE X (.Name "other" p) (tVar 7) := fun p => pe_var (by rw [hN]; rfl) w7
  have q3d : ∀ p, PE X (.Name "found" p) (fun σ H Q => tVar 3 σ H fun x H1 => (∃ a xs, x = .ref a ∧ H1 a = some (memO X.prog X.w a xs)) ∧ Q x H1) := fun p => pe_imp (q3 p) fun σ H Q ⟨v, h1, _, h2⟩ => ⟨v, h1, h2⟩
  refine pss_imp (pss_cons (ps_set hNd (show X.N[3]? = some ("found" : Str) by rw [hN]; rfl) l3 pe_mnew s1 f3) (pss_cons (ps_for hp hc (pi_anyZ vi) (pg_any vg) (pss_cons (ps_any v0) (pss_cons (ps_any v1) (pss_one (ps_mputG (val := valP) hu (q3 p4) (q7 p5) (pe_op op_add (pe_mgetD (val := valP) hu (q3d p7) (q7 p8) (pe_any vz) m2 (fun σ H Q ⟨v, h1, h2, h3⟩ => ⟨v, h1, h2, h2, h3⟩)) (q5 p9)) s2)))) hfs) (pss_one (ps_ret (pe_fz (q3 p13)))))) fun Z σ H ⟨a, I, kvs, p, q, rl, hA, hl, fin⟩ => ?_
  intro b hb ns
  have rl0 : Rel X.K I H (moE a b p q .no .no .no .no) (σ.set 3 (some (.ref b))) I H := rl.set_im (i := 3) (d := .adr b) .adr
  obtain ⟨m1, h0b⟩ := rm_new (P := X.prog) (w := X.w) (xs := []) rl (fun i s h => by
    match i, h with
    | 0, h => cases h; exact .inr ⟨_, rfl⟩
    | 1, h => cases h; exact .inr ⟨_, rfl⟩
    | 2, h => cases h; exact .inr ⟨_, rfl⟩
    | 3, h => cases h; exact .inl rfl
    | 4, h => cases h; exact .inl rfl
    | 5, h => cases h; exact .inl rfl
    | 6, h => cases h; exact .inl rfl
    | 7, h => cases h; exact .inl rfl
    | 8, h => cases h; exact .inl rfl
    | _ + 9, h => cases h) hb ns List.nodup_nil (fun x hx => by cases hx) 3 (by show 3 < 9; decide)
  have m1 : RM X.prog X.w X.K valP b I H (moE a b p q .no .no .no .no) (σ.set 3 (some (.ref b))) I (upd H b (memO X.prog X.w b [])) [] := m1
  refine ⟨I, upd H b (memO X.prog X.w b []), a, kvs, hA, moE a b p q .no .no .no .no, I, m1.rel, ?_⟩
  have hi : fZ a 0 (itemsR kvs) (moE a b p q .no .no .no .no) = .ok (.lst (kvs.map fun x => .tup [pkD x.1, .int x.2])) := by
    rw [fZ_at rfl]
    exact if_pos hl
  show PostI _ _ _ _ _ (fZ a 0 (itemsR kvs) (moE a b p q .no .no .no .no)) _
  rw [hi]
  intro J I4 H4 g4 sv
  have m4 := m1.grow g4
  clear m1 rl0
  refine for_it sv (fun i σ' H' => ∃ I' xs', RM X.prog X.w X.K valP b I H (moE a b p q .no .no .no .no) σ' I' H' xs' ∧ Ex I4 I' ∧ i ≤ kvs.length ∧ xs'.length ≤ i ∧ pkOf xs' = moZ (kvs.take i) p q) ⟨I4, [], m4, Ex.refl _, Nat.zero_le _, Nat.le_refl _, rfl⟩ (fun i σ' H' _ ⟨I', xs', m', e', _⟩ => e'.trans m'.ex) ?_ ?_
  · intro i xv σ5 H5 H6 hi5 ⟨I5, xs5, m5, e5, l5, k5, q5'⟩ yd
    obtain ⟨d, I6, e6, g6, k6, _⟩ := yd_grow e5 m5.ex yd
    rw [List.getElem?_map] at e6
    obtain ⟨⟨k, n⟩, ek, rfl⟩ := Option.map_eq_some_iff.mp e6
    have hik : i < kvs.length := (List.getElem?_eq_some_iff.mp ek).1
    have m6 := m5.grow g6
    refine ⟨I6, H6, _, moE a b p q .no .no .no .no, I6, m6.rel, k6, ?_⟩
    show GPost X.K I6 H6 [4, 5] σ5 I6 H6 (.ok (moE a b p q (.im (pkD k)) (.im (.int n)) .no .no)) _
    intro σ7 r7 _ _
    have m7 := m6.of_rel r7 (mo_only okI okI okN okN)
    have e7 := e5.trans g6.i
    refine tS_nxE m7 gmB0_ok (mo_only okI okI okI okN) fun σ8 I8 H8 m8 e8 => ?_
    refine tS_nxE m8 gmB1_ok (mo_only okI okI okI okI) fun σ9 I9 H9 m9 e9 => ?_
    obtain ⟨v3, z3, r3⟩ := m9.im 3 _ rfl
    cases r3
    obtain ⟨v7, z7, r7'⟩ := m9.im 7 _ rfl
    obtain ⟨kb, rfl⟩ : ∃ kb, v7 = .ref kb := by cases r7'; exact ⟨_, rfl⟩
    have hk8 : nk8 (pkD (nrZ (rnZ p q k.1, rnZ p q k.2))) = some (pkK (nrZ (rnZ p q k.1, rnZ p q k.2))) := nk8_pk
    refine ⟨.ref b, z3, ⟨b, xs5, rfl, m9.mm.at_⟩, .ref kb, z7, tE_okE (d := .int 0) m9 rfl fun v0 I10 H10 m10 e10 rv0 => ?_⟩
    have en := en_of m10.mm
    have lk := lk_at (p := nrZ (rnZ p q k.1, rnZ p q k.2)) en
    have fl : xs5.length < sizeLine := by rw [PySem.sizeLine_eq]; omega
    obtain ⟨v5, z5, r5⟩ := m10.im 5 (.int n) rfl
    cases r5
    have store : ∀ old : Int, (lkZ (pkOf xs5) (nrZ (rnZ p q k.1, rnZ p q k.2))).getD 0 = old → tVar 3 σ9 H10 fun x H2 => tVar 7 σ9 H2 fun y H3 => ∃ a' b' J ys dk ky, MKey X valP H3 x y a' b' J ys dk ky ∧ ys.length < sizeLine ∧ ∀ u, RelV (.int (old + n)) u → (fun σ' H' => ∃ I' xs', RM X.prog X.w X.K valP b I H (moE a b p q .no .no .no .no) σ' I' H' xs' ∧ Ex I4 I' ∧ i + 1 ≤ kvs.length ∧ xs'.length ≤ i + 1 ∧ pkOf xs' = moZ (kvs.take (i + 1)) p q) σ9 (upd H3 a' (memO X.prog X.w a' (storedH ys ky b' u))) := fun old ho => by
      refine ⟨.ref b, z3, .ref kb, z7, b, kb, I10, xs5, _, _, ⟨rfl, rfl, m10.ex, m10.mm, hk8, r7'.mono e10⟩, fl, fun u hu' => ?_⟩
      obtain ⟨t, rfl⟩ : ∃ t, u = Value.int (old + n) t := hu'
      refine ⟨I10, _, (m10.putG hk8 (r7'.mono e10) (v := .int (old + n)) ⟨t, rfl⟩ .int ⟨_, _, rfl, rfl⟩).weak mo_ke, ((e7.trans e8).trans e9).trans e10, hik, ?_, ?_⟩
      · have := storedH_length xs5 (pkK (nrZ (rnZ p q k.1, rnZ p q k.2))) kb (Value.int (old + n) t)
        omega
      · rw [put_at en, q5', ← ho, q5', List.take_add_one, ek]
        unfold moZ
        rw [List.foldl_append]
        rfl
    refine ⟨b, kb, I10, xs5, _, _, ⟨rfl, rfl, m10.ex, m10.mm, hk8, r7'.mono e10⟩, fun pp hpp v rv => ?_, fun hno => ?_⟩
    · rw [hpp] at lk
      obtain ⟨x, hx, e2⟩ : ∃ x ∈ xs5, x.2 = pp := by
        unfold atKey at hpp
        obtain ⟨x, g1, g2⟩ := Option.map_eq_some_iff.mp hpp
        exact ⟨x, List.mem_of_find?_eq_some g1, g2⟩
      obtain ⟨_, old, t, _, _, e3⟩ := en x hx
      rw [← e2, e3] at rv
      have rv : v = .int old := rel_int rv
      subst rv
      refine ⟨.int n, z5, old, n, rfl, rfl, store old ?_⟩
      rw [← lk, ← e2]
      show vP x.2.2 = old
      rw [e3]
      rfl
    · rw [hno] at lk
      cases rv0
      refine ⟨.int n, z5, 0, n, rfl, rfl, store 0 ?_⟩
      rw [← lk]
      rfl
  · rintro σ5 H5 ⟨I5, xs5, m5, e5, l5, k5, q5'⟩
    rw [List.length_map, List.take_length] at q5'
    obtain ⟨v3, z3, r3⟩ := m5.im 3 _ rfl
    cases r3
    refine ⟨.ref b, z3, b, xs5, rfl, m5.mm.at_, fun o => ?_⟩
    obtain ⟨g, f, _⟩ := rm_frz m5 h0b o xs5 m5.mm.nd (en_of m5.mm)
    rw [q5'] at f
    exact fin b _ _ g f
end
end BW
/-! BCore104: a def that gathers pairs out of a tuple into such a dict, and counts the others; both defs as they are called. -/
namespace BW
open PySem PySem.Spec PyProof.Rows L2
open Evl (Ex Ex.refl Ex.trans Ex.new ex_rd ex_l ex_t)
/-- the ties of a web -/
def tiesZ : D → Option (List (Int × Int))
  | .obj 0 [.int _, .tup l] => prsZ l
  | _ => none
where prsZ : List D → Option (List (Int × Int))
  | [] => some []
  | .tup [.int a, .int b] :: l => (prsZ l).map fun r => (a, b) :: r
  | _ :: _ => none
theorem prsZ_map : ∀ {l : List D} {r : List (Int × Int)}, tiesZ.prsZ l = some r → l = r.map pkD
  | [], r, h => by cases h; rfl
  | d :: l, r, h => by
    unfold tiesZ.prsZ at h
    split at h
    · rename_i e; cases e
    · rename_i a b l' e
      cases e
      obtain ⟨r', h1, rfl⟩ := Option.map_eq_some_iff.mp h
      rw [prsZ_map h1]
      rfl
    · cases h
theorem tiesZ_inv {d : D} {ts : List (Int × Int)} (h : tiesZ d = some ts) : ∃ n, d = .obj 0 [.int n, .tup (ts.map pkD)] := by
  unfold tiesZ at h
  split at h
  · rename_i n l
    exact ⟨n, by rw [prsZ_map h]⟩
  · cases h
/-- what is gathered: the pairs' counts, and how many loops -/
def gaZ (ts : List (Int × Int)) : PK × Int := ts.foldl (fun acc t => if (nrZ t).1 = (nrZ t).2 then (acc.1, acc.2 + 1) else (addZ acc.1 (nrZ t) 1, acc.2)) ([], 0)
def fgI : F := f1 seqD (f1 (atD 0 "ties") (fI 0))
def ggB : G := gSet 4 (fA tupD (aCons (fA minTD (aCons (fI 3) aNil)) (aCons (fA maxTD (aCons (fI 3) aNil)) aNil)))
def fgT : F := f2 eqD (f2 ixD (fI 4) (fC (.int 0))) (f2 ixD (fI 4) (fC (.int 1)))
def gaE (d : D) (b : Addr) (l : Int) (s3 s4 : Sl) : En := [.im d, .im (.adr b), .im (.int l), s3, s4]
theorem ga_only {d : D} {b : Addr} {l : Int} {s3 s4 : Sl} (h3 : okS1 s3) (h4 : okS1 s4) : ∀ (i : Nat) (t : Sl), (gaE d b l s3 s4)[i]? = some t → t = .no ∨ ∃ d, t = .im d := by
  intro i t h
  match i, h with
  | 0, h => cases h; exact .inr ⟨_, rfl⟩
  | 1, h => cases h; exact .inr ⟨_, rfl⟩
  | 2, h => cases h; exact .inr ⟨_, rfl⟩
  | 3, h => cases h; exact h3
  | 4, h => cases h; exact h4
  | _ + 5, h => cases h
theorem ga_ke {d : D} {b : Addr} {l : Int} {s3 s4 : Sl} : KeE (gaE d b l s3 s4) (gaE d b l .no .no) := by
  refine ⟨rfl, fun i s h => ?_⟩
  match i, h with
  | 0, h => cases h; exact .inr rfl
  | 1, h => cases h; exact .inr rfl
  | 2, h => cases h; exact .inr rfl
  | 3, h => cases h; exact .inl rfl
  | 4, h => cases h; exact .inl rfl
  | _ + 5, h => cases h
theorem fgI_ok {n : Int} {ts : List (Int × Int)} {b : Addr} {l : Int} : fgI (gaE (.obj 0 [.int n, .tup (ts.map pkD)]) b l .no .no) = .ok (.lst (ts.map pkD)) := rfl
theorem ggB_ok {d : D} {t : Int × Int} {b : Addr} {l : Int} : ggB (gaE d b l (.im (pkD t)) .no) = .nx (gaE d b l (.im (pkD t)) (.im (pkD (nrZ t)))) := rfl
theorem fgT_ok {d : D} {k : Int × Int} {b : Addr} {l : Int} {s3 : Sl} : fgT (gaE d b l s3 (.im (pkD k))) = .ok (.bl (decide (k.1 = k.2))) := by
  show (ixD (pkD k) (.int 0)).bind (fun x => (ixD (pkD k) (.int 1)).bind fun y => eqD x y) = _
  have e0 : ixD (pkD k) (.int 0) = .ok (.int k.1) := rfl
  have e1 : ixD (pkD k) (.int 1) = .ok (.int k.2) := rfl
  rw [e0, e1]
  rfl
def spGa (P : Program) (w : World) (K : PySem.W.Frag) : Sp := fun vs H Q E => ∃ (v : V) (d : D) (I : Hp) (ts : List (Int × Int)), vs = [v] ∧ Ex I H ∧ Rd K I v d ∧ tiesZ d = some ts ∧ ts.length ≤ 1000 ∧ ∀ t b I' H', Grow I H I' H' → Fz P w K I' b (gaZ ts).1 → Rd K I' t (.tup [.adr b, .int (gaZ ts).2]) → Q t H'
def tGat (X : Cx) : TS := fun Z σ H => ∃ d I ts, Rel X.K I H [.im d, .no, .no, .no, .no] σ I H ∧ tiesZ d = some ts ∧ ts.length ≤ 1000 ∧ ∀ t b I' H', Grow I H I' H' → Fz X.prog X.w X.K I' b (gaZ ts).1 → Rd X.K I' t (.tup [.adr b, .int (gaZ ts).2]) → Z.rt t H'
section
variable {X : Cx} {W : WX} {tg ei et e0 e1 : Expr} {st1 stB stL : Stmt} {p1 p2 p3 p4 p5 p6 p7 p8 p9 p10 p11 p12 p13 p14 p15 ap cp : Pos} {kk : Nat}
theorem pss_ga (hN : X.N = [("web" : Str), "counts", "loops", "ends", "pair"])
    (vz : ∀ A H0, VS X W A H0 false st1 (gSet 2 (fC (.int 0)))) (vi : ∀ A H0, VI X W A H0 (.Name "ends" p12) ei fgI) (vb : ∀ A H0, VS X W A H0 false stB ggB) (vt : ∀ A H0, VT X W A H0 et fgT) (vl : ∀ A H0, VS X W A H0 false stL (gAug 2 (fC (.int 1)) (· + ·))) (v0 : ∀ A H0, VE X W A H0 e0 (fC (.int 0))) (v1 : ∀ A H0, VE X W A H0 e1 (fC (.int 1)))
    (hu : X.A.units + 64 < cLine) (hp : PassesOwn (model X.prog X.w) X.A X.env X.xe) (hc : X.calm = true)
    (w1 : Vis X.env.scope "counts" := by first | exact Or.inl rfl | exact Or.inr (Or.inl rfl) | exact Or.inr (Or.inr rfl)) (l1 : Loc X.env.scope "counts" := by first | exact .inl rfl | exact .inr rfl) (f1 : X.fn "counts" = true ∨ X.env.scope.names.lookup ("counts" : Str) = some NameKind.local := by first | exact .inl rfl | exact .inr rfl)
    (w2 : Vis X.env.scope "loops" := by first | exact Or.inl rfl | exact Or.inr (Or.inl rfl) | exact Or.inr (Or.inr rfl)) (w4 : Vis X.env.scope "pair" := by first | exact Or.inl rfl | exact Or.inr (Or.inl rfl) | exact Or.inr (Or.inr rfl))
    (l3 : Loc X.env.scope "ends" := by first | exact .inl rfl | exact .inr rfl) (f3 : X.fn "ends" = true ∨ X.env.scope.names.lookup ("ends" : Str) = some NameKind.local := by first | exact .inl rfl | exact .inr rfl)
    (hfs : ∀ x, foldedSetIterable ei X.env x = pure x := by intro _; rfl) (m2 : M2 X (.Name "counts" p7) "get" ap (.Name "pair" p8) e0 cp := by exact ⟨rfl, rfl, rfl, rfl⟩)
    (s1 : swapsWith (.Dict [] [] p1) (some (.Name "counts" p2)) p3.line X.env = pure false := by rfl) (s2 : swapsWith (.BinOp (.Call (.Attribute (.Name "counts" p7) "get" ap) [.Name "pair" p8, e0] [] cp) .Add e1 p10) (some (.Subscript (.Name "counts" p4) (.Name "pair" p5) p6)) p11.line X.env = pure false := by rfl)
    (a1 : starEach (.Name "counts" p13 :: [.Name "loops" p14]) X.env = (false, eval (.Name "counts" p13) X.env) :: starEach [.Name "loops" p14] X.env := by rfl) (a2 : starEach (.Name "loops" p14 :: []) X.env = (false, eval (.Name "loops" p14) X.env) :: starEach [] X.env := by rfl) :
    PSs X [.Assign [.Name "counts" p2] (.Dict [] [] p1) p3, st1, .For (.Name "ends" p12) ei [stB, .If et [stL] [.Assign [.Subscript (.Name "counts" p4) (.Name "pair" p5) p6] (.BinOp (.Call (.Attribute (.Name "counts" p7) "get" ap) [.Name "pair" p8, e0] [] cp) .Add e1 p10) p11] p9] [] p15, .Return (some (.Tuple [.Name "counts" p13, .Name "loops" p14] kk cp2)) p16] (tGat X) := by
  have hNd : X.N.Nodup := by rw [hN]; decide
  have q1 : ∀ p, PE X (.Name "counts" p) (tVar 1) := fun p => pe_var (by rw [hN]; rfl) w1
  have q2 : ∀ p, PE X (.Name "loops" p) (tVar 2) := fun p => pe_var (by rw [hN]; rfl) w2
  have q4 : ∀ p, PE X (.Name "pair" p) (tVar 4) := fun p => pe_var (by rw [hN]; rfl) w4
  have q1d : ∀ p, PE X (.Name "counts" p) (fun σ H Q => tVar 1 σ H fun x H1 => (∃ a xs, x = .ref a ∧ H1 a = some (memO X.prog X.w a xs)) ∧ Q x H1) := fun p => pe_imp (q1 p) fun σ H Q ⟨v, h1, _, h2⟩ => ⟨v, h1, h2⟩
  refine pss_imp (pss_cons (ps_set hNd (show X.N[1]? = some ("counts" : Str) by rw [hN]; rfl) l1 pe_mnew s1 f1) (pss_cons (ps_any vz) (pss_cons (ps_for hp hc (pi_any vi) (pg_name hNd (show X.N[3]? = some ("ends" : Str) by rw [hN]; rfl) l3 f3) (pss_cons (ps_any vb) (pss_one (ps_if (pt_any vt) (pss_one (ps_any vl)) (pss_one (ps_mputG (val := valP) hu (q1 p4) (q4 p5) (pe_op op_add (pe_mgetD (val := valP) hu (q1d p7) (q4 p8) (pe_any v0) m2 (fun σ H Q ⟨v, h1, h2, h3⟩ => ⟨v, h1, h2, h2, h3⟩)) (pe_any v1)) s2))))) hfs) (pss_one (ps_ret (pe_tupN (pa_cons (pe_fz (q1 p13)) (pa_cons (q2 p14) pa_nil a2) a1))))))) fun Z σ H ⟨d, I, ts, rl, ht, hl, fin⟩ => ?_
  intro b hb ns
  obtain ⟨nm, rfl⟩ := tiesZ_inv ht
  obtain ⟨m1, h0b⟩ := rm_new (P := X.prog) (w := X.w) (xs := []) rl (fun i s h => by
    match i, h with
    | 0, h => cases h; exact .inr ⟨_, rfl⟩
    | 1, h => cases h; exact .inl rfl
    | 2, h => cases h; exact .inl rfl
    | 3, h => cases h; exact .inl rfl
    | 4, h => cases h; exact .inl rfl
    | _ + 5, h => cases h) hb ns List.nodup_nil (fun x hx => by cases hx) 1 (by show 1 < 5; decide)
  have m1 : RM X.prog X.w X.K valP b I H [.im (.obj 0 [.int nm, .tup (ts.map pkD)]), .im (.adr b), .no, .no, .no] (σ.set 1 (some (.ref b))) I (upd H b (memO X.prog X.w b [])) [] := m1
  refine tS_nxE (e := gaE (.obj 0 [.int nm, .tup (ts.map pkD)]) b 0 .no .no) m1 rfl (ga_only okN okN) fun σ2 I2 H2 m2' _ => ?_
  refine ⟨I2, H2, gaE (.obj 0 [.int nm, .tup (ts.map pkD)]) b 0 .no .no, I2, m2'.rel, ?_⟩
  rw [fgI_ok]
  intro J I4 H4 g4 sv
  have m4 := m2'.grow g4
  clear m1 m2'
  refine for_it sv (fun i σ' H' => ∃ I' xs' l, RM X.prog X.w X.K valP b I H (gaE (.obj 0 [.int nm, .tup (ts.map pkD)]) b l .no .no) σ' I' H' xs' ∧ Ex I4 I' ∧ i ≤ ts.length ∧ xs'.length ≤ i ∧ (pkOf xs', l) = gaZ (ts.take i)) ⟨I4, [], 0, m4, Ex.refl _, Nat.zero_le _, Nat.le_refl _, rfl⟩ (fun i σ' H' _ ⟨I', xs', l, m', e', _⟩ => e'.trans m'.ex) ?_ ?_
  · intro i xv σ5 H5 H6 hi5 ⟨I5, xs5, l, m5, e5, l5, k5, q5⟩ yd
    obtain ⟨d, I6, e6, g6, k6, _⟩ := yd_grow e5 m5.ex yd
    rw [List.getElem?_map] at e6
    obtain ⟨t, ek, rfl⟩ := Option.map_eq_some_iff.mp e6
    have hik : i < ts.length := (List.getElem?_eq_some_iff.mp ek).1
    have m6 : RM X.prog X.w X.K valP b I H (gaE (.obj 0 [.int nm, .tup (ts.map pkD)]) b l (.im (pkD t)) .no) (σ5.set 3 (some xv)) I6 H6 xs5 := (m5.grow g6).set 3 k6
    have e7 := e5.trans g6.i
    have nxt : gaZ (ts.take (i + 1)) = if (nrZ t).1 = (nrZ t).2 then (pkOf xs5, l + 1) else (addZ (pkOf xs5) (nrZ t) 1, l) := by
      rw [List.take_add_one, ek]
      unfold gaZ at q5 ⊢
      rw [List.foldl_append, ← q5]
      rfl
    refine tS_nxE m6 ggB_ok (ga_only okI okI) fun σ8 I8 H8 m8 e8 => ?_
    refine tT_okE m8 fgT_ok fun I9 H9 m9 e9 => ?_
    by_cases c : (nrZ t).1 = (nrZ t).2
    · rw [decide_eq_true c, if_pos (show true = true from rfl)]
      refine tS_nxE (e := gaE (.obj 0 [.int nm, .tup (ts.map pkD)]) b (l + 1) (.im (pkD t)) (.im (pkD (nrZ t)))) m9 rfl (ga_only okI okI) fun σ10 I10 H10 m10 e10 => ?_
      refine ⟨I10, xs5, l + 1, m10.weak ga_ke, ((e7.trans e8).trans e9).trans e10, hik, by omega, ?_⟩
      rw [nxt, if_pos c]
    · rw [decide_eq_false c, if_neg (by decide)]
      obtain ⟨v1', z1, r1⟩ := m9.im 1 _ rfl
      cases r1
      obtain ⟨v4, z4, r4⟩ := m9.im 4 _ rfl
      obtain ⟨kb, rfl⟩ : ∃ kb, v4 = .ref kb := by cases r4; exact ⟨_, rfl⟩
      have hk8 : nk8 (pkD (nrZ t)) = some (pkK (nrZ t)) := nk8_pk
      refine ⟨.ref b, z1, ⟨b, xs5, rfl, m9.mm.at_⟩, .ref kb, z4, tE_okE (d := .int 0) m9 rfl fun v0' I10 H10 m10 e10 rv0 => ?_⟩
      have en := en_of m10.mm
      have lk := lk_at (p := nrZ t) en
      have fl : xs5.length < sizeLine := by rw [PySem.sizeLine_eq]; omega
      have store : ∀ old : Int, (lkZ (pkOf xs5) (nrZ t)).getD 0 = old → tEa X W (fC (.int 1)) σ8 H10 fun y H => ∃ i' j, V.int old = .int i' ∧ y = .int j ∧ tVar 1 σ8 H fun x H2 => tVar 4 σ8 H2 fun y H3 => ∃ a' b' J ys dk ky, MKey X valP H3 x y a' b' J ys dk ky ∧ ys.length < sizeLine ∧ ∀ u, RelV (.int (i' + j)) u → (fun σ' H' => ∃ I' xs' l, RM X.prog X.w X.K valP b I _ (gaE (.obj 0 [.int nm, .tup (ts.map pkD)]) b l .no .no) σ' I' H' xs' ∧ Ex I4 I' ∧ i + 1 ≤ ts.length ∧ xs'.length ≤ i + 1 ∧ (pkOf xs', l) = gaZ (ts.take (i + 1))) σ8 (upd H3 a' (memO X.prog X.w a' (storedH ys ky b' u))) := fun old ho => by
        refine tE_okE (d := .int 1) m10 rfl fun vo I11 H11 m11 e11 rvo => ?_
        cases rvo
        refine ⟨old, 1, rfl, rfl, .ref b, z1, .ref kb, z4, b, kb, I11, xs5, _, _, ⟨rfl, rfl, m11.ex, m11.mm, hk8, (r4.mono e10).mono e11⟩, fl, fun u hu' => ?_⟩
        obtain ⟨t', rfl⟩ : ∃ t', u = Value.int (old + 1) t' := hu'
        refine ⟨I11, _, l, (m11.putG hk8 ((r4.mono e10).mono e11) (v := .int (old + 1)) ⟨t', rfl⟩ .int ⟨_, _, rfl, rfl⟩).weak ga_ke, (((e7.trans e8).trans e9).trans e10).trans e11, hik, ?_, ?_⟩
        · have := storedH_length xs5 (pkK (nrZ t)) kb (Value.int (old + 1) t')
          omega
        · rw [put_at en, nxt, if_neg c, ← ho]
          rfl
      refine ⟨b, kb, I10, xs5, _, _, ⟨rfl, rfl, m10.ex, m10.mm, hk8, r4.mono e10⟩, fun pp hpp v rv => ?_, fun hno => ?_⟩
      · rw [hpp] at lk
        obtain ⟨x, hx, e2⟩ : ∃ x ∈ xs5, x.2 = pp := by
          unfold atKey at hpp
          obtain ⟨x, g1, g2⟩ := Option.map_eq_some_iff.mp hpp
          exact ⟨x, List.mem_of_find?_eq_some g1, g2⟩
        obtain ⟨_, old, t', _, _, e3⟩ := en x hx
        rw [← e2, e3] at rv
        have rv : v = .int old := rel_int rv
        subst rv
        refine store old ?_
        rw [← lk, ← e2]
        show vP x.2.2 = old
        rw [e3]
        rfl
      · rw [hno] at lk
        cases rv0
        refine store 0 ?_
        rw [← lk]
        rfl
  · rintro σ5 H5 ⟨I5, xs5, l, m5, e5, l5, k5, q5⟩
    rw [List.length_map, List.take_length] at q5
    obtain ⟨v1', z1, r1⟩ := m5.im 1 _ rfl
    cases r1
    obtain ⟨v2', z2, r2⟩ := m5.im 2 _ rfl
    cases r2
    refine ⟨.ref b, z1, b, xs5, rfl, m5.mm.at_, fun o => ?_⟩
    obtain ⟨g, f, _⟩ := rm_frz m5 h0b o xs5 m5.mm.nd (en_of m5.mm)
    refine ⟨.int l, z2, by show 2 ≤ sizeLine; decide, fun p ob hp' hd => ?_⟩
    have e1' : gaZ ts = (pkOf xs5, l) := q5.symm
    refine fin (.ref p) b _ _ (g.trans (Grow.push g.ih hp')) ?_ ?_
    · rw [e1']
      exact f.mono (Ex.new (Evl.fresh_back g.ih hp'))
    · rw [e1']
      exact .tup (.new hd) (.cons .adr (.cons .int .nil))
end
end BW
/-! BCore105: a def over such a dict that takes one pair out of it and calls itself. -/
namespace BW
open PySem PySem.Spec PyProof.Rows L2
open Evl (Ex Ex.refl Ex.trans Ex.new ex_rd ex_l ex_t)
def bothZ (l : PK) : List D := (l.map fun x => pkD x.1) ++ l.map fun x => pkD (x.1.2, x.1.1)
/-- is the second of k come to from the first -/
def comeM (mc : List D → R D) (l : PK) (k : Int × Int) : R Bool := match (mc [.lst (bothZ l), .int k.1]).bind lsD with
  | .ok c => match inD (.int k.2) c with
    | .ok (.bl b) => .ok b
    | _ => .no
  | _ => .no
def whG (cm : PK → Int × Int → R Bool) : Nat → PK → R Int
  | 0, _ => .no
  | n + 1, kvs => if kvs.length = 0 then .ok 1 else if inPZ kvs = true then match minZ kvs with
    | none => .no
    | some k => match lkZ kvs k with
      | none => .no
      | some m => if 0 ≤ m ∧ m ≤ 60 then match cm (dropZ kvs k) k with
        | .ok true => (whG cm n (moZ (dropZ kvs k) k.1 k.2)).bind fun x => (whG cm n (dropZ kvs k)).bind fun y => .ok ((2 ^ m.toNat - 1) * x + y)
        | .ok false => if (2 : Int) ^ m.toNat = 2 then .ok 0 else (whG cm n (moZ (dropZ kvs k) k.1 k.2)).bind fun x => .ok ((2 ^ m.toNat - 2) * x)
        | _ => .no
      else .no
    else .no
def whM (mc : List D → R D) (n : Nat) (kvs : PK) : R Int := whG (comeM mc) n kvs
def whR (mc : List D → R D) (n : Nat) (kvs : PK) : R D := match whM mc n kvs with
  | .ok r => .ok (.int r)
  | _ => .no
theorem whG_inv {cm : PK → Int × Int → R Bool} {n : Nat} {kvs : PK} {r : Int} (h : whG cm (n + 1) kvs = .ok r) : (kvs.length = 0 ∧ r = 1) ∨ (kvs.length ≠ 0 ∧ inPZ kvs = true ∧ ∃ k m, minZ kvs = some k ∧ lkZ kvs k = some m ∧ 0 ≤ m ∧ m ≤ 60 ∧
    ((cm (dropZ kvs k) k = .ok true ∧ ∃ x y, whG cm n (moZ (dropZ kvs k) k.1 k.2) = .ok x ∧ whG cm n (dropZ kvs k) = .ok y ∧ r = (2 ^ m.toNat - 1) * x + y) ∨ (cm (dropZ kvs k) k = .ok false ∧ (((2 : Int) ^ m.toNat = 2 ∧ r = 0) ∨ ((2 : Int) ^ m.toNat ≠ 2 ∧ ∃ x, whG cm n (moZ (dropZ kvs k) k.1 k.2) = .ok x ∧ r = (2 ^ m.toNat - 2) * x))))) := by
  unfold whG at h
  by_cases c : kvs.length = 0
  · rw [if_pos c] at h
    cases h
    exact .inl ⟨c, rfl⟩
  rw [if_neg c] at h
  by_cases ci : inPZ kvs = true
  · rw [if_pos ci] at h
    refine .inr ⟨c, ci, ?_⟩
    split at h
    · cases h
    rename_i k hk
    split at h
    · cases h
    rename_i m hm
    by_cases cm : 0 ≤ m ∧ m ≤ 60
    · rw [if_pos cm] at h
      refine ⟨k, m, hk, hm, cm.1, cm.2, ?_⟩
      split at h
      · rename_i hc
        obtain ⟨x, h1, h⟩ := bindW_ok h
        obtain ⟨y, h2, h⟩ := bindW_ok h
        cases h
        exact .inl ⟨hc, x, y, h1, h2, rfl⟩
      · rename_i hc
        refine .inr ⟨hc, ?_⟩
        by_cases c2 : (2 : Int) ^ m.toNat = 2
        · rw [if_pos c2] at h
          cases h
          exact .inl ⟨c2, rfl⟩
        · rw [if_neg c2] at h
          obtain ⟨x, h1, h⟩ := bindW_ok h
          cases h
          exact .inr ⟨c2, x, h1, rfl⟩
      · cases h
    · rw [if_neg cm] at h
      cases h
  · rw [if_neg ci] at h
    cases h
theorem whM_inv {mc : List D → R D} {n : Nat} {kvs : PK} {r : Int} (h : whM mc (n + 1) kvs = .ok r) : (kvs.length = 0 ∧ r = 1) ∨ (kvs.length ≠ 0 ∧ inPZ kvs = true ∧ ∃ k m, minZ kvs = some k ∧ lkZ kvs k = some m ∧ 0 ≤ m ∧ m ≤ 60 ∧
    ((comeM mc (dropZ kvs k) k = .ok true ∧ ∃ x y, whM mc n (moZ (dropZ kvs k) k.1 k.2) = .ok x ∧ whM mc n (dropZ kvs k) = .ok y ∧ r = (2 ^ m.toNat - 1) * x + y) ∨ (comeM mc (dropZ kvs k) k = .ok false ∧ (((2 : Int) ^ m.toNat = 2 ∧ r = 0) ∨ ((2 : Int) ^ m.toNat ≠ 2 ∧ ∃ x, whM mc n (moZ (dropZ kvs k) k.1 k.2) = .ok x ∧ r = (2 ^ m.toNat - 2) * x))))) := whG_inv (cm := comeM mc) h
theorem whG_of {cm : PK → Int × Int → R Bool} {n : Nat} {kvs : PK} {r : Int} (h : (kvs.length = 0 ∧ r = 1) ∨ (kvs.length ≠ 0 ∧ inPZ kvs = true ∧ ∃ k m, minZ kvs = some k ∧ lkZ kvs k = some m ∧ 0 ≤ m ∧ m ≤ 60 ∧
    ((cm (dropZ kvs k) k = .ok true ∧ ∃ x y, whG cm n (moZ (dropZ kvs k) k.1 k.2) = .ok x ∧ whG cm n (dropZ kvs k) = .ok y ∧ r = (2 ^ m.toNat - 1) * x + y) ∨ (cm (dropZ kvs k) k = .ok false ∧ (((2 : Int) ^ m.toNat = 2 ∧ r = 0) ∨ ((2 : Int) ^ m.toNat ≠ 2 ∧ ∃ x, whG cm n (moZ (dropZ kvs k) k.1 k.2) = .ok x ∧ r = (2 ^ m.toNat - 2) * x)))))) : whG cm (n + 1) kvs = .ok r := by
  unfold whG
  rcases h with ⟨c, rfl⟩ | ⟨c, ci, k, m, hk, hm, m0, m6, h⟩
  · rw [if_pos c]
  · rw [if_neg c, if_pos ci, hk]
    show (match lkZ kvs k with
      | none => _
      | some m => _) = _
    rw [hm]
    show (if 0 ≤ m ∧ m ≤ 60 then _ else _) = _
    rw [if_pos ⟨m0, m6⟩]
    rcases h with ⟨hc, x, y, hx, hy, rfl⟩ | ⟨hc, h⟩
    · rw [hc, hx, hy]
      rfl
    · rw [hc]
      rcases h with ⟨c2, rfl⟩ | ⟨c2, x, hx, rfl⟩
      · show (if (2 : Int) ^ m.toNat = 2 then _ else _) = _
        rw [if_pos c2]
      · show (if (2 : Int) ^ m.toNat = 2 then _ else _) = _
        rw [if_neg c2, hx]
        rfl
theorem whG_mono {cm cm' : PK → Int × Int → R Bool} (h : ∀ l k b, cm l k = .ok b → cm' l k = .ok b) : ∀ (n : Nat) (kvs : PK) (r : Int), whG cm n kvs = .ok r → whG cm' n kvs = .ok r
  | 0, _, _, z => by cases z
  | n + 1, kvs, r, z => by
    rcases whG_inv z with z | ⟨c, ci, k, m, hk, hm, m0, m6, z⟩
    · exact whG_of (.inl z)
    · refine whG_of (.inr ⟨c, ci, k, m, hk, hm, m0, m6, ?_⟩)
      rcases z with ⟨hc, x, y, hx, hy, e⟩ | ⟨hc, z⟩
      · exact .inl ⟨h _ _ _ hc, x, y, whG_mono h n _ _ hx, whG_mono h n _ _ hy, e⟩
      · refine .inr ⟨h _ _ _ hc, ?_⟩
        rcases z with z | ⟨c2, x, hx, e⟩
        · exact .inl z
        · exact .inr ⟨c2, x, whG_mono h n _ _ hx, e⟩
def spWh (P : Program) (w : World) (K : PySem.W.Frag) (mc : List D → R D) (n : Nat) : Sp := fun vs H Q E => ∃ (a : Addr) (I : Hp) (kvs : PK) (r : Int), vs = [.ref a] ∧ Ex I H ∧ Fz P w K I a kvs ∧ whM mc n kvs = .ok r ∧ ∀ I' H', Grow I H I' H' → Q (.int r) H'
/-- how the def is called -/
structure CalWh (P : Program) (w : World) (K : PySem.W.Frag) (mg : Str → Option Value) (base : Heap) (x : Str) (k : Nat) (mc : List D → R D) (n : Nat) : Prop where
  ex : ∃ (f : Addr) (fd : FuncData) (ps : List Str), FnOk P w K mg base (L2.CX P w) k f fd ps (spWh P w K mc n) ∧ mg x = some (.ref f) ∧ PySem.W.keepIn K (.ref f) = true ∧ Binds K fd ps []
structure CalMo (P : Program) (w : World) (K : PySem.W.Frag) (mg : Str → Option Value) (base : Heap) (x : Str) (k : Nat) : Prop where
  ex : ∃ (f : Addr) (fd : FuncData) (ps : List Str), FnOk P w K mg base (L2.CX P w) k f fd ps (spMo P w K) ∧ mg x = some (.ref f) ∧ PySem.W.keepIn K (.ref f) = true ∧ Binds K fd ps []
structure CalGa (P : Program) (w : World) (K : PySem.W.Frag) (mg : Str → Option Value) (base : Heap) (x : Str) (k : Nat) : Prop where
  ex : ∃ (f : Addr) (fd : FuncData) (ps : List Str), FnOk P w K mg base (L2.CX P w) k f fd ps (spGa P w K) ∧ mg x = some (.ref f) ∧ PySem.W.keepIn K (.ref f) = true ∧ Binds K fd ps []
section
variable {X : Cx} {W : WX} {A H0 : Hp} {b : Addr} {ys : PK} {pos pos2 p p2 p3 p4 p5 : Pos} {x y z y1 y2 : Str} {mc : List D → R D} {n j k k2 : Nat}
theorem ve_wh (C : CalWh X.prog X.w X.K X.mg X.base x k mc n) (hr : Room j X.A) (tk : Takes X W) (hA : Fz X.prog X.w X.K A b ys) (i : Nat) (hk : k ≤ j := by first | decide | omega) (hN : X.N[i]? = some y := by rfl) (hv : Vis X.env.scope y := by first | exact Or.inl rfl | exact Or.inr (Or.inl rfl) | exact Or.inr (Or.inr rfl)) (hd : (y == ("__debug__" : Str)) = false := by decide) (hcd : (y == ("__classdict__" : Str)) = false := by decide)
    (hg : Gl X x := by rfl) (hdb : (x == ("__debug__" : Str)) = false := by decide) (he : starEach (.Name y p2 :: []) X.env = (false, eval (.Name y p2) X.env) :: starEach [] X.env := by rfl) (hpl : (backTo pos (starEach [] X.env)).any (·.1) = false := by rfl) :
    VE X W A H0 (.Call (.Name x p) (.Name y p2 :: []) [] pos) (fZ b i (whR mc n ys)) := by
  obtain ⟨f, fd, ps, F, h1, h2, h3⟩ := C.ex
  refine pe_imp (pe_callS F (hr.mono hk) hg h1 h2 h3 (fun σ => passAt tk σ) (pa_cons (pe_var hN hv hd hcd) pa_nil he) hdb he hpl) fun σ H Q ⟨env, I, rl, q⟩ => ?_
  obtain ⟨g1, q⟩ := fZ_ok (Z := fun r => PostE X.K W σ I H r Q) rl (fun z => z) q
  unfold whR at q
  cases hw : whM mc n ys with
  | no => rw [hw] at q; exact q.elim
  | er c p => rw [hw] at q; exact q.elim
  | ok r =>
    rw [hw] at q
    exact ⟨.ref b, g1, b, I, ys, r, rfl, rl.g.ih, hA.mono rl.g.i, hw, fun I' H' g => q _ I' H' g .int⟩
def fWm (mc : List D → R D) (n : Nat) (b : Addr) (ys : PK) (i u v : Nat) : F := fun env => match env[u]?, env[v]? with
  | some (.im (.int p)), some (.im (.int q)) => fZ b i (if ys.length ≤ 1000 then whR mc n (moZ ys p q) else .no) env
  | _, _ => .no
theorem ve_whm (C : CalWh X.prog X.w X.K X.mg X.base x k mc n) (C2 : CalMo X.prog X.w X.K X.mg X.base z k2) (hr : Room j X.A) (tk : Takes X W) (hA : Fz X.prog X.w X.K A b ys) (i u v : Nat) (hk : k ≤ j := by first | decide | omega) (hk2 : k2 ≤ j := by first | decide | omega)
    (hN : X.N[i]? = some y := by rfl) (hv : Vis X.env.scope y := by first | exact Or.inl rfl | exact Or.inr (Or.inl rfl) | exact Or.inr (Or.inr rfl)) (hd : (y == ("__debug__" : Str)) = false := by decide) (hcd : (y == ("__classdict__" : Str)) = false := by decide)
    (hN1 : X.N[u]? = some y1 := by rfl) (hv1 : Vis X.env.scope y1 := by first | exact Or.inl rfl | exact Or.inr (Or.inl rfl) | exact Or.inr (Or.inr rfl)) (hd1 : (y1 == ("__debug__" : Str)) = false := by decide) (hcd1 : (y1 == ("__classdict__" : Str)) = false := by decide)
    (hN2 : X.N[v]? = some y2 := by rfl) (hv2 : Vis X.env.scope y2 := by first | exact Or.inl rfl | exact Or.inr (Or.inl rfl) | exact Or.inr (Or.inr rfl)) (hd2 : (y2 == ("__debug__" : Str)) = false := by decide) (hcd2 : (y2 == ("__classdict__" : Str)) = false := by decide)
    (hg : Gl X x := by rfl) (hdb : (x == ("__debug__" : Str)) = false := by decide) (hg2 : Gl X z := by rfl) (hdb2 : (z == ("__debug__" : Str)) = false := by decide)
    (e1 : starEach (.Name y p2 :: [.Name y1 p3, .Name y2 p4]) X.env = (false, eval (.Name y p2) X.env) :: starEach [.Name y1 p3, .Name y2 p4] X.env := by rfl) (e2 : starEach (.Name y1 p3 :: [.Name y2 p4]) X.env = (false, eval (.Name y1 p3) X.env) :: starEach [.Name y2 p4] X.env := by rfl) (e3 : starEach (.Name y2 p4 :: []) X.env = (false, eval (.Name y2 p4) X.env) :: starEach [] X.env := by rfl) (hpl2 : (backTo pos2 (starEach [.Name y1 p3, .Name y2 p4] X.env)).any (·.1) = false := by rfl)
    (he : starEach (.Call (.Name z p5) (.Name y p2 :: [.Name y1 p3, .Name y2 p4]) [] pos2 :: []) X.env = (false, eval (.Call (.Name z p5) (.Name y p2 :: [.Name y1 p3, .Name y2 p4]) [] pos2) X.env) :: starEach [] X.env := by rfl) (hpl : (backTo pos (starEach [] X.env)).any (·.1) = false := by rfl) :
    VE X W A H0 (.Call (.Name x p) (.Call (.Name z p5) (.Name y p2 :: [.Name y1 p3, .Name y2 p4]) [] pos2 :: []) [] pos) (fWm mc n b ys i u v) := by
  obtain ⟨f, fd, ps, F, h1, h2, h3⟩ := C.ex
  obtain ⟨f2, fd2, ps2, F2, k1, k2', k3⟩ := C2.ex
  refine pe_imp (pe_callS F (hr.mono hk) hg h1 h2 h3 (fun σ => passAt tk σ) (pa_cons (pe_callS F2 (hr.mono hk2) hg2 k1 k2' k3 (fun σ => passAt tk σ) (pa_cons (pe_var hN hv hd hcd) (pa_cons (pe_var hN1 hv1 hd1 hcd1) (pa_cons (pe_var hN2 hv2 hd2 hcd2) pa_nil e3) e2) e1) hdb2 e1 hpl2) pa_nil he) hdb he hpl) fun σ H Q ⟨env, I, rl, q⟩ => ?_
  unfold fWm at q
  split at q <;> try (exact q.elim)
  rename_i pp qq hp hq
  obtain ⟨g1, q⟩ := fZ_ok (Z := fun r => PostE X.K W σ I H r Q) rl (fun z => z) q
  obtain ⟨v1, z1, r1⟩ := rl.im u _ hp
  obtain ⟨v2, z2, r2⟩ := rl.im v _ hq
  cases r1
  cases r2
  by_cases c : ys.length ≤ 1000
  · rw [if_pos c] at q
    unfold whR at q
    cases hw : whM mc n (moZ ys pp qq) with
    | no => rw [hw] at q; exact q.elim
    | er c p => rw [hw] at q; exact q.elim
    | ok r =>
      rw [hw] at q
      exact ⟨.ref b, g1, .int pp, z1, .int qq, z2, b, I, ys, pp, qq, rfl, rl.g.ih, hA.mono rl.g.i, c, fun b' I1 H1 g f => ⟨b', I1, _, r, rfl, g.ih, f, hw, fun I' H' g' => q _ I' H' (g.trans g') .int⟩⟩
  · rw [if_neg c] at q
    exact q.elim
end
/-! ### its statements -/
def whE (a : Addr) (s1 s2 s3 s4 s5 : Sl) : En := [.im (.adr a), s1, s2, s3, s4, s5, .no]
theorem wh_only {a : Addr} {s1 s2 s3 s4 s5 : Sl} (h1 : okS1 s1) (h2 : okS1 s2) (h3 : okS1 s3) (h4 : okS1 s4) (h5 : okS1 s5) : ∀ (i : Nat) (t : Sl), (whE a s1 s2 s3 s4 s5)[i]? = some t → t = .no ∨ ∃ d, t = .im d := by
  intro i t h
  match i, h with
  | 0, h => cases h; exact .inr ⟨_, rfl⟩
  | 1, h => cases h; exact h1
  | 2, h => cases h; exact h2
  | 3, h => cases h; exact h3
  | 4, h => cases h; exact h4
  | 5, h => cases h; exact h5
  | 6, h => cases h; exact .inl rfl
  | _ + 7, h => cases h
def fwK : F := fA tupD (aCons (fI 1) (aCons (fI 2) aNil))
def gw0Z (a : Addr) (kvs : PK) : G := gIf (f2 eqD (fZ a 0 (lenR kvs)) (fC (.int 0))) (gRet (fC (.int 1))) gNext
def gw1Z (a : Addr) (kvs : PK) : G := gUnp (tT 2 (tsCons (tN 1) (tsCons (tN 2) tsNil))) (fZ a 0 (minR kvs))
def gw2Z (a : Addr) (kvs : PK) : G := gSet 3 (f2 shlD (fC (.int 1)) (f2 (fun _ d => getR kvs d) (fZ a 0 (.ok .non)) fwK))
def fwS : F := fA tupD (aCons (f2 ixD (fI 6) (fC (.int 1))) (aCons (f2 ixD (fI 6) (fC (.int 0))) aNil))
def fwB (b : Addr) (ys : PK) : F := f2 catD (fLs (fZ b 4 (keysR ys))) (fLs (fLc (fZ b 4 (keysR ys)) (tN 6) (fC (.bl true)) fwS [6]))
def fwT (mc : List D → R D) : F := f2 inD (fI 2) (fLs (fA mc (aCons (fI 5) (aCons (fI 1) aNil))))
def gw5Z (mc : List D → R D) (n : Nat) (b : Addr) (ys : PK) : G := gSeq (gSet 5 (fLs (fwB b ys))) (gSeq (gIf (fwT mc) (gRet (f2 addD (f2 mulD (f2 subD (fI 3) (fC (.int 1))) (fWm mc n b ys 4 1 2)) (fZ b 4 (whR mc n ys)))) gNext) (gSeq (gIf (f2 eqD (fI 3) (fC (.int 2))) (gRet (fC (.int 0))) gNext) (gRet (f2 mulD (f2 subD (fI 3) (fC (.int 2))) (fWm mc n b ys 4 1 2)))))
section
variable {mc : List D → R D} {n : Nat} {a b : Addr} {kvs ys : PK} {k : Int × Int} {m : Int}
theorem gw0_0 (h : kvs.length = 0) : gw0Z a kvs (whE a .no .no .no .no .no) = .rt (.int 1) := by
  have e : fZ a 0 (lenR kvs) (whE a .no .no .no .no .no) = .ok (.int 0) := by
    rw [fZ_at rfl]
    unfold lenR
    rw [if_pos (by omega), h]
    rfl
  show SR.of _ ((fZ a 0 (lenR kvs) (whE a .no .no .no .no .no)).bind fun x => (R.ok (D.int 0)).bind fun y => eqD x y) _ = _
  rw [e]
  rfl
theorem gw0_1 (h : kvs.length ≠ 0) (hl : kvs.length ≤ 1000) : gw0Z a kvs (whE a .no .no .no .no .no) = .nx (whE a .no .no .no .no .no) := by
  have e : fZ a 0 (lenR kvs) (whE a .no .no .no .no .no) = .ok (.int kvs.length) := by
    rw [fZ_at rfl]
    unfold lenR
    rw [if_pos hl]
  have e2 : decide ((kvs.length : Int) = 0) = false := decide_eq_false (by omega)
  show SR.of _ ((fZ a 0 (lenR kvs) (whE a .no .no .no .no .no)).bind fun x => (R.ok (D.int 0)).bind fun y => eqD x y) _ = _
  rw [e]
  show SR.of _ (.ok (.bl (decide ((kvs.length : Int) = 0)))) _ = _
  rw [e2]
  rfl
theorem gw1_ok (h : minZ kvs = some k) : gw1Z a kvs (whE a .no .no .no .no .no) = .nx (whE a (.im (.int k.1)) (.im (.int k.2)) .no .no .no) := by
  have e : fZ a 0 (minR kvs) (whE a .no .no .no .no .no) = .ok (pkD k) := by
    rw [fZ_at rfl]
    unfold minR
    rw [h]
  show SR.of _ (fZ a 0 (minR kvs) (whE a .no .no .no .no .no)) _ = _
  rw [e]
  rfl
theorem gw2_ok (h : lkZ kvs k = some m) (h0 : 0 ≤ m) (h1 : m ≤ 60) : gw2Z a kvs (whE a (.im (.int k.1)) (.im (.int k.2)) .no .no .no) = .nx (whE a (.im (.int k.1)) (.im (.int k.2)) (.im (.int (2 ^ m.toNat))) .no .no) := by
  have e : fZ a 0 (.ok .non) (whE a (.im (.int k.1)) (.im (.int k.2)) .no .no .no) = .ok .non := fZ_at rfl
  have e1 : getR kvs (.tup [.int k.1, .int k.2]) = .ok (.int m) := by
    have h : lkZ kvs (k.1, k.2) = some m := h
    show (match lkZ kvs (k.1, k.2) with
      | some n => R.ok (D.int n)
      | none => R.no) = _
    rw [h]
  have e2 : shlD (.int 1) (.int m) = .ok (.int (2 ^ m.toNat)) := by
    show (if 0 ≤ m ∧ m ≤ 1000000 ∧ (1 : Int).natAbs < 2 ^ 64 then R.ok (D.int (1 * 2 ^ m.toNat)) else R.no) = _
    rw [if_pos ⟨h0, by omega, by decide⟩, Int.one_mul]
  show SR.of _ ((R.ok (D.int 1)).bind fun x => ((fZ a 0 (.ok .non) (whE a (.im (.int k.1)) (.im (.int k.2)) .no .no .no)).bind fun _ => (R.ok (D.tup [.int k.1, .int k.2])).bind fun d => getR kvs d).bind fun y => shlD x y) _ = _
  rw [e]
  show SR.of _ ((getR kvs (.tup [.int k.1, .int k.2])).bind fun y => shlD (.int 1) y) _ = _
  rw [e1]
  show SR.of _ (shlD (.int 1) (.int m)) _ = _
  rw [e2]
  rfl
theorem lcS (env : En) (h : env.length = 7) : ∀ l : List (Int × Int), lcF (tN 6) (fC (.bl true)) fwS env (l.map pkD) = .ok (l.map fun x => pkD (x.2, x.1))
  | [] => rfl
  | x :: l => by
    have e : fwS (env.set 6 (.im (pkD x))) = .ok (pkD (x.2, x.1)) := by
      have g : fI 6 (env.set 6 (.im (pkD x))) = .ok (pkD x) := by
        unfold fI
        rw [List.getElem?_set_self (by omega)]
      show (((fI 6 (env.set 6 (.im (pkD x)))).bind fun y => (R.ok (D.int 1)).bind fun i => ixD y i).bind fun u => (((fI 6 (env.set 6 (.im (pkD x)))).bind fun y => (R.ok (D.int 0)).bind fun i => ixD y i).bind fun v => (R.ok ([] : List D)).bind fun r => R.ok (v :: r)).bind fun r => R.ok (u :: r)).bind tupD = _
      rw [g]
      rfl
    show (fwS (env.set 6 (.im (pkD x)))).bindQ (fun y => (lcF (tN 6) (fC (.bl true)) fwS env (l.map pkD)).bindQ fun r => .ok (y :: r)) = _
    rw [e, lcS env h l]
    rfl
theorem fwB_ok (hl : ys.length ≤ 1000) : fLs (fwB b ys) (whE a (.im (.int k.1)) (.im (.int k.2)) (.im (.int m)) (.im (.adr b)) .no) = .ok (.lst (bothZ ys)) := by
  have e : fZ b 4 (keysR ys) (whE a (.im (.int k.1)) (.im (.int k.2)) (.im (.int m)) (.im (.adr b)) .no) = .ok (.lst (ys.map fun x => pkD x.1)) := by
    rw [fZ_at rfl]
    exact if_pos hl
  have e2 : fLc (fZ b 4 (keysR ys)) (tN 6) (fC (.bl true)) fwS [6] (whE a (.im (.int k.1)) (.im (.int k.2)) (.im (.int m)) (.im (.adr b)) .no) = .ok (.lst (ys.map fun x => pkD (x.1.2, x.1.1))) := by
    unfold fLc
    rw [e]
    show (if (ys.map fun x => pkD x.1).length ≤ 16777216 then (lcF (tN 6) (fC (.bl true)) fwS (wipeE (whE a (.im (.int k.1)) (.im (.int k.2)) (.im (.int m)) (.im (.adr b)) .no) [6]) (ys.map fun x => pkD x.1)).bindQ fun r => R.ok (D.lst r) else R.no) = _
    have e3 : (ys.map fun x => pkD x.1) = (ys.map (·.1)).map pkD := by rw [List.map_map]; rfl
    rw [if_pos (by rw [List.length_map]; omega), e3, lcS _ rfl, List.map_map]
    rfl
  have e4 : ((ys.map fun x => pkD x.1).length + (ys.map fun x => pkD (x.1.2, x.1.1)).length) ≤ sizeLine := by rw [List.length_map, List.length_map, PySem.sizeLine_eq]; omega
  show (((fZ b 4 (keysR ys) (whE a (.im (.int k.1)) (.im (.int k.2)) (.im (.int m)) (.im (.adr b)) .no)).bind lsD).bind fun x => ((fLc (fZ b 4 (keysR ys)) (tN 6) (fC (.bl true)) fwS [6] (whE a (.im (.int k.1)) (.im (.int k.2)) (.im (.int m)) (.im (.adr b)) .no)).bind lsD).bind fun y => catD x y).bind lsD = _
  rw [e, e2]
  show (catD (.lst (ys.map fun x => pkD x.1)) (.lst (ys.map fun x => pkD (x.1.2, x.1.1)))).bind lsD = _
  show (if (ys.map fun x => pkD x.1).length + (ys.map fun x => pkD (x.1.2, x.1.1)).length ≤ sizeLine then R.ok (D.lst ((ys.map fun x => pkD x.1) ++ ys.map fun x => pkD (x.1.2, x.1.1))) else R.no).bind lsD = _
  rw [if_pos e4]
  rfl
theorem mul_small {i j : Int} (h : -(2 ^ 64) < i ∧ i < 2 ^ 64) : mulD (.int i) (.int j) = .ok (.int (i * j)) := by
  show (if (smallI i || smallI j || decide (i.natAbs.log2 + j.natAbs.log2 < 1000000)) = true then R.ok (D.int (i * j)) else R.no) = _
  rw [if_pos (by unfold smallI; rw [decide_eq_true h]; rfl)]
theorem pow_le60 (h1 : m ≤ 60) : (1 : Int) ≤ 2 ^ m.toNat ∧ (2 : Int) ^ m.toNat ≤ 2 ^ 60 := by
  have h : m.toNat ≤ 60 := by omega
  have a1 : (1 : Nat) ≤ 2 ^ m.toNat := Nat.one_le_two_pow
  have a2 : (2 : Nat) ^ m.toNat ≤ 2 ^ 60 := Nat.pow_le_pow_right (by decide) h
  have e : ((2 ^ m.toNat : Nat) : Int) = (2 : Int) ^ m.toNat := by rw [Int.natCast_pow]; rfl
  rw [← e]
  omega
/-- what is left when the pair is taken out -/
theorem gw5_ok {r : Int} (hl : ys.length ≤ 1000) (h1 : m ≤ 60) (h : (comeM mc ys k = .ok true ∧ ∃ x y, whM mc n (moZ ys k.1 k.2) = .ok x ∧ whM mc n ys = .ok y ∧ r = (2 ^ m.toNat - 1) * x + y) ∨ (comeM mc ys k = .ok false ∧ (((2 : Int) ^ m.toNat = 2 ∧ r = 0) ∨ ((2 : Int) ^ m.toNat ≠ 2 ∧ ∃ x, whM mc n (moZ ys k.1 k.2) = .ok x ∧ r = (2 ^ m.toNat - 2) * x)))) :
    gw5Z mc n b ys (whE a (.im (.int k.1)) (.im (.int k.2)) (.im (.int (2 ^ m.toNat))) (.im (.adr b)) .no) = .rt (.int r) := by
  have hp := pow_le60 h1
  generalize (2 : Int) ^ m.toNat = t at h hp ⊢
  have s5 : gSet 5 (fLs (fwB b ys)) (whE a (.im (.int k.1)) (.im (.int k.2)) (.im (.int t)) (.im (.adr b)) .no) = .nx (whE a (.im (.int k.1)) (.im (.int k.2)) (.im (.int t)) (.im (.adr b)) (.im (.lst (bothZ ys)))) := by
    show SR.of _ (fLs (fwB b ys) (whE a (.im (.int k.1)) (.im (.int k.2)) (.im (.int t)) (.im (.adr b)) .no)) _ = _
    rw [fwB_ok hl]
    rfl
  have ft : ∀ {c : Bool}, comeM mc ys k = .ok c → fwT mc (whE a (.im (.int k.1)) (.im (.int k.2)) (.im (.int t)) (.im (.adr b)) (.im (.lst (bothZ ys)))) = .ok (.bl c) := fun {c} hc => by
    show ((mc [.lst (bothZ ys), .int k.1]).bind lsD).bind (fun y => inD (.int k.2) y) = _
    unfold comeM at hc
    split at hc
    · rename_i cc h2
      rw [h2]
      show inD (.int k.2) cc = _
      split at hc
      · rename_i bb h3
        rw [h3]
        cases hc
        rfl
      · cases hc
    · cases hc
  have fm : ∀ {x : Int}, whM mc n (moZ ys k.1 k.2) = .ok x → fWm mc n b ys 4 1 2 (whE a (.im (.int k.1)) (.im (.int k.2)) (.im (.int t)) (.im (.adr b)) (.im (.lst (bothZ ys)))) = .ok (.int x) := fun {x} hx => by
    show fZ b 4 (if ys.length ≤ 1000 then whR mc n (moZ ys k.1 k.2) else .no) (whE a (.im (.int k.1)) (.im (.int k.2)) (.im (.int t)) (.im (.adr b)) (.im (.lst (bothZ ys)))) = _
    rw [fZ_at rfl, if_pos hl]
    unfold whR
    rw [hx]
  have fr : ∀ {y : Int}, whM mc n ys = .ok y → fZ b 4 (whR mc n ys) (whE a (.im (.int k.1)) (.im (.int k.2)) (.im (.int t)) (.im (.adr b)) (.im (.lst (bothZ ys)))) = .ok (.int y) := fun {y} hy => by
    rw [fZ_at rfl]
    unfold whR
    rw [hy]
  unfold gw5Z
  show (match gSet 5 (fLs (fwB b ys)) (whE a (.im (.int k.1)) (.im (.int k.2)) (.im (.int t)) (.im (.adr b)) .no) with
    | .nx e => _
    | r => r) = _
  rw [s5]
  rcases h with ⟨hc, x, y, hx, hy, rfl⟩ | ⟨hc, h⟩
  · show (match SR.of _ (fwT mc (whE a (.im (.int k.1)) (.im (.int k.2)) (.im (.int t)) (.im (.adr b)) (.im (.lst (bothZ ys))))) _ with
      | .nx e => _
      | r => r) = _
    rw [ft hc]
    show (match SR.of _ (((((R.ok (D.int t)).bind fun x => (R.ok (D.int 1)).bind fun y => subD x y).bind fun u => (fWm mc n b ys 4 1 2 (whE a (.im (.int k.1)) (.im (.int k.2)) (.im (.int t)) (.im (.adr b)) (.im (.lst (bothZ ys))))).bind fun v => mulD u v).bind fun u => (fZ b 4 (whR mc n ys) (whE a (.im (.int k.1)) (.im (.int k.2)) (.im (.int t)) (.im (.adr b)) (.im (.lst (bothZ ys))))).bind fun v => addD u v)) _ with
      | .nx e => _
      | r => r) = _
    rw [fm hx, fr hy]
    show (match SR.of _ ((mulD (.int (t - 1)) (.int x)).bind fun u => addD u (.int y)) _ with
      | .nx e => _
      | r => r) = _
    rw [mul_small (by omega)]
    rfl
  · show (match SR.of _ (fwT mc (whE a (.im (.int k.1)) (.im (.int k.2)) (.im (.int t)) (.im (.adr b)) (.im (.lst (bothZ ys))))) _ with
      | .nx e => _
      | r => r) = _
    rw [ft hc]
    rcases h with ⟨c2, rfl⟩ | ⟨c2, x, hx, rfl⟩
    · show (match SR.of _ (R.ok (.bl (decide (t = 2)))) _ with
        | .nx e => _
        | r => r) = _
      rw [decide_eq_true c2]
      rfl
    · show (match SR.of _ (R.ok (.bl (decide (t = 2)))) _ with
        | .nx e => _
        | r => r) = _
      rw [decide_eq_false c2]
      show SR.of _ ((((R.ok (D.int t)).bind fun x => (R.ok (D.int 2)).bind fun y => subD x y).bind fun u => (fWm mc n b ys 4 1 2 (whE a (.im (.int k.1)) (.im (.int k.2)) (.im (.int t)) (.im (.adr b)) (.im (.lst (bothZ ys))))).bind fun v => mulD u v)) _ = _
      rw [fm hx]
      show SR.of _ (mulD (.int (t - 2)) (.int x)) _ = _
      rw [mul_small (by omega)]
      rfl
end
end BW
/-! BCore106: the defs over such dicts, as they are called; the def that hands back a number. -/
namespace BW
open PySem PySem.Spec PyProof.Rows L2
open Evl (Ex Ex.refl Ex.trans Ex.new ex_rd ex_l ex_t)
section
variable {P : Program} {w : World} {K : PySem.W.Frag} {A H0 I H Hs I0 I' H' : Hp} {env : En} {σ : L2.St} {b : Addr} {xs : MX}
theorem rel_im (hl : σ.length = env.length) (hi : ∀ (i : Nat) (d : D), env[i]? = some (Sl.im d) → ∃ v, σ[i]? = some (some v) ∧ Rd K I v d) (ho : ∀ (i : Nat) (s : Sl), env[i]? = some s → s = .no ∨ ∃ d, s = .im d) (e : Ex I H) : Rel K I H env σ I H := by
  refine ⟨Grow.refl e, hl, hi, fun i l e => ?_, fun i d e => ?_, fun i j l l' b e _ _ _ => ?_, fun i ks l e => ?_, fun i j ks ls l l' b e _ _ _ => ?_, fun i d e => ?_, DkI.none fun i o d e => ?_⟩ <;>
  · rcases ho _ _ e with z | ⟨_, z⟩ <;> cases z
theorem rm_rel (m : RM P w K valP b I0 Hs env σ I H xs) (e : Ex I I') (ih : Ex I' H') : Rel K I' H' env σ I' H' := rel_im m.len (fun i d z => let ⟨v, h1, h2⟩ := m.im i d z; ⟨v, h1, h2.mono e⟩) m.only ih
end
def tWh (X : Cx) (mc : List D → R D) (n : Nat) : TS := fun Z σ H => ∃ a I kvs r, Rel X.K I H (whE a .no .no .no .no .no) σ I H ∧ Fz X.prog X.w X.K I a kvs ∧ whM mc (n + 1) kvs = .ok r ∧ ∀ I' H', Grow I H I' H' → Z.rt (.int r) H'
section
variable {X : Cx} {W : WX} {mc : List D → R D} {n : Nat} {st0 st1 st2 : Stmt} {sts : List Stmt} {ek eR : Expr} {p1 p2 p3 p4 p5 p6 p7 p8 ap cp pt : Pos} {kk : Nat}
theorem pss_wh (hN : X.N = [("counts" : Str), "one", "two", "many", "rest", "both", "pair"])
    (v0 : ∀ A H0 a kvs, Fz X.prog X.w X.K A a kvs → VS X W A H0 false st0 (gw0Z a kvs)) (v1 : ∀ A H0 a kvs, Fz X.prog X.w X.K A a kvs → VS X W A H0 false st1 (gw1Z a kvs)) (v2 : ∀ A H0 a kvs, Fz X.prog X.w X.K A a kvs → VS X W A H0 false st2 (gw2Z a kvs)) (vk : ∀ A H0, VE X W A H0 ek fwK)
    (v5 : ∀ A H0 b ys, Fz X.prog X.w X.K A b ys → VSs X W A H0 false sts (gw5Z mc n b ys)) (hu : X.A.units + 64 < cLine) (hm : X.mg "dict" = none) (hg : Gl X "dict" := by rfl) (hb : bootBuiltins "dict" = some (.type "dict") := by decide +kernel)
    (w0 : Vis X.env.scope "counts" := by first | exact Or.inl rfl | exact Or.inr (Or.inl rfl) | exact Or.inr (Or.inr rfl)) (w4 : Vis X.env.scope "rest" := by first | exact Or.inl rfl | exact Or.inr (Or.inl rfl) | exact Or.inr (Or.inr rfl)) (l4 : Loc X.env.scope "rest" := by first | exact .inl rfl | exact .inr rfl) (f4 : X.fn "rest" = true ∨ X.env.scope.names.lookup ("rest" : Str) = some NameKind.local := by first | exact .inl rfl | exact .inr rfl)
    (m1 : M1 X (.Name "rest" p6) "pop" ap ek cp := by exact ⟨rfl, rfl, rfl, rfl⟩) (s1 : swapsWith (.Call (.Name "dict" p2) (.Name "counts" p3 :: []) [] p4) (some (.Name "rest" p1)) p5.line X.env = pure false := by rfl) (s2 : swapsWith (.Call (.Attribute (.Name "rest" p6) "pop" ap) [ek] [] cp) none p7.line X.env = pure false := by rfl)
    (ea : starEach (.Name "counts" p3 :: []) X.env = (false, eval (.Name "counts" p3) X.env) :: starEach [] X.env := by rfl) (hpl : (backTo p4 (starEach [] X.env)).any (·.1) = false := by rfl) :
    PSs X (st0 :: st1 :: st2 :: .Assign [.Name "rest" p1] (.Call (.Name "dict" p2) (.Name "counts" p3 :: []) [] p4) p5 :: .Expr (.Call (.Attribute (.Name "rest" p6) "pop" ap) [ek] [] cp) p7 :: sts) (tWh X mc n) := by
  have hNd : X.N.Nodup := by rw [hN]; decide
  have q0 : ∀ p, PE X (.Name "counts" p) (tVar 0) := fun p => pe_var (by rw [hN]; rfl) w0
  have q4 : ∀ p, PE X (.Name "rest" p) (tVar 4) := fun p => pe_var (by rw [hN]; rfl) w4
  have q4d : ∀ p, PE X (.Name "rest" p) (fun σ H Q => tVar 4 σ H fun x H1 => (∃ a xs, x = .ref a ∧ H1 a = some (memO X.prog X.w a xs)) ∧ Q x H1) := fun p => pe_imp (q4 p) fun σ H Q ⟨v, h1, _, h2⟩ => ⟨v, h1, h2⟩
  refine pss_imp (pss_cons (ps_anyZ v0) (pss_cons (ps_anyZ v1) (pss_cons (ps_anyZ v2) (pss_cons (ps_set hNd (show X.N[4]? = some ("rest" : Str) by rw [hN]; rfl) l4 (pe_callTy (call_dictZ hu) hg hm hb (pa_cons (q0 p3) pa_nil ea) (by decide) (by decide) ea hpl) s1 f4) (pss_cons (ps_expr (pe_mpop (val := valP) hu (q4d p6) (pe_any vk) m1 (fun σ H Q ⟨v, h1, h2, h3⟩ => ⟨v, h1, h2, h2, h3⟩)) s2) (pss_anyZ v5)))))) fun Z σ H ⟨a, I, kvs, r, rl, hA, hw, fin⟩ => ?_
  rcases whM_inv hw with ⟨h0, rfl⟩ | ⟨h0, hi, k, m, hk, hkm, m0, m6, hres⟩
  · refine ⟨I, H, a, kvs, hA, _, I, rl, ?_⟩
    show PostS _ _ _ _ _ _ _ (gw0Z a kvs (whE a .no .no .no .no .no))
    rw [gw0_0 h0]
    intro v I1 H1 g rv
    cases rv
    exact fin I1 H1 g
  have hl : kvs.length ≤ 1000 := of_decide_eq_true ((Bool.and_eq_true _ _ ▸ hi : _ ∧ _).1)
  refine ⟨I, H, a, kvs, hA, _, I, rl, ?_⟩
  show PostS _ _ _ _ _ _ _ (gw0Z a kvs (whE a .no .no .no .no .no))
  rw [gw0_1 h0 hl]
  intro σ1 I1 H1 rl1 e1
  refine ⟨I, H, a, kvs, hA, _, I1, rl1, ?_⟩
  show PostS _ _ _ _ _ _ _ (gw1Z a kvs (whE a .no .no .no .no .no))
  rw [gw1_ok hk]
  intro σ2 I2 H2 rl2 e2
  refine ⟨I, H, a, kvs, hA, _, I2, rl2, ?_⟩
  show PostS _ _ _ _ _ _ _ (gw2Z a kvs (whE a (.im (.int k.1)) (.im (.int k.2)) .no .no .no))
  rw [gw2_ok hkm m0 m6]
  intro σ3 I3 H3 rl3 e3
  obtain ⟨v0', z0, r0⟩ := rl3.im 0 _ rfl
  cases r0
  refine ⟨.ref a, z0, a, I3, kvs, rfl, rl3.g.ih, hA.mono rl3.g.i, hi, fun b xs hb' ns nd he hpk => ?_⟩
  obtain ⟨m4, h0b⟩ := rm_new (P := X.prog) (w := X.w) rl3 (wh_only okI okI okI okN okN) hb' ns nd he 4 (by show 4 < 7; decide)
  have m4 : RM X.prog X.w X.K valP b I H (whE a (.im (.int k.1)) (.im (.int k.2)) (.im (.int (2 ^ m.toNat))) (.im (.adr b)) .no) (σ3.set 4 (some (.ref b))) I3 (upd H3 b (memO X.prog X.w b xs)) xs := m4
  obtain ⟨v4, z4, r4⟩ := m4.im 4 _ rfl
  cases r4
  refine ⟨.ref b, z4, ⟨b, xs, rfl, m4.mm.at_⟩, tE_okE (d := pkD k) m4 rfl fun vk' I5 H5 m5 e5 rk => ?_⟩
  obtain ⟨kb, rfl⟩ : ∃ kb, vk' = .ref kb := by cases rk; exact ⟨_, rfl⟩
  have en := en_of m5.mm
  have lk := lk_at (p := k) en
  rw [hpk, hkm] at lk
  obtain ⟨pp, hpp, _⟩ := Option.map_eq_some_iff.mp lk
  have hxl : xs.length ≤ sizeLine := by
    have : (pkOf xs).length = xs.length := List.length_map _
    rw [hpk] at this
    rw [PySem.sizeLine_eq]
    omega
  refine ⟨b, kb, I5, xs, pkD k, pkK k, pp, ⟨rfl, rfl, m5.ex, m5.mm, nk8_pk, rk⟩, hpp, hxl, fun v o _ => ?_⟩
  have sub : (withoutH xs (pkK k)).Sublist xs := List.filter_sublist
  obtain ⟨g, f, e6⟩ := rm_frz m5 h0b o (withoutH xs (pkK k)) (m5.mm.nd.sublist (sub.map _)) fun y hy => en y (sub.subset hy)
  rw [drop_at en, hpk] at f
  have hld : (dropZ kvs k).length ≤ 1000 := Nat.le_trans (List.length_filter_le _ _) hl
  refine ⟨_, _, b, dropZ kvs k, f, _, _, rm_rel m5 e6 g.ih, ?_⟩
  show PostS _ _ _ _ _ _ _ (gw5Z mc n b (dropZ kvs k) (whE a (.im (.int k.1)) (.im (.int k.2)) (.im (.int (2 ^ m.toNat))) (.im (.adr b)) .no))
  rw [gw5_ok hld m6 hres]
  intro v7 I7 H7 g7 rv
  cases rv
  exact fin I7 H7 (g.trans g7)
/-! ### how many -/
def gHow (mc : List D → R D) (n : Nat) : G := fun env => match env with
  | [.im d, _, _] => match tiesZ d with
    | some ts => if ts.length ≤ 1000 ∧ 0 ≤ (gaZ ts).2 ∧ (gaZ ts).2 ≤ 60 then match whM mc n (gaZ ts).1 with
      | .ok r => .rt (.int (2 ^ (gaZ ts).2.toNat * r))
      | _ => .no
      else .no
    | none => .no
  | _ => .no
theorem gHow_ok {env : En} {Q : SR → Prop} (h : Q (gHow mc n env)) (hn : ¬ Q .no) : ∃ d s1 s2 ts r, env = [.im d, s1, s2] ∧ tiesZ d = some ts ∧ ts.length ≤ 1000 ∧ 0 ≤ (gaZ ts).2 ∧ (gaZ ts).2 ≤ 60 ∧ whM mc n (gaZ ts).1 = .ok r ∧ Q (.rt (.int (2 ^ (gaZ ts).2.toNat * r))) := by
  unfold gHow at h
  split at h
  · rename_i d s1 s2
    split at h
    · rename_i ts ht
      by_cases c : ts.length ≤ 1000 ∧ 0 ≤ (gaZ ts).2 ∧ (gaZ ts).2 ≤ 60
      · rw [if_pos c] at h
        split at h
        · rename_i r hr
          exact ⟨d, s1, s2, ts, r, rfl, ht, c.1, c.2.1, c.2.2, hr, h⟩
        · exact absurd h hn
      · rw [if_neg c] at h
        exact absurd h hn
    · exact absurd h hn
  · exact absurd h hn
def fHowR (mc : List D → R D) (n : Nat) (a : Addr) (kvs : PK) : F := f2 mulD (f2 shlD (fC (.int 1)) (fI 2)) (fZ a 1 (whR mc n kvs))
theorem vss_how {A H0 : Hp} {k j : Nat} (hN : X.N = [("web" : Str), "counts", "loops"]) (C : CalGa X.prog X.w X.K X.mg X.base "gathered" k) (hr : Room j X.A) (tk : Takes X W) (vr : ∀ A H0 a kvs, Fz X.prog X.w X.K A a kvs → VE X W A H0 eR (fHowR mc n a kvs)) (vg : ∀ A H0, VG X A H0 (.Tuple [.Name "counts" p1, .Name "loops" p2] kk pt) [1, 2] (tT 2 (tsCons (tN 1) (tsCons (tN 2) tsNil)))) (hk : k ≤ j := by decide)
    (w0 : Vis X.env.scope "web" := by first | exact Or.inl rfl | exact Or.inr (Or.inl rfl) | exact Or.inr (Or.inr rfl)) (hg : Gl X "gathered" := by rfl) (ea : starEach (.Name "web" p4 :: []) X.env = (false, eval (.Name "web" p4) X.env) :: starEach [] X.env := by rfl) (hpl : (backTo p5 (starEach [] X.env)).any (·.1) = false := by rfl)
    (hs : swapsWithSole [.Tuple [.Name "counts" p1, .Name "loops" p2] kk pt] (.Call (.Name "gathered" p3) (.Name "web" p4 :: []) [] p5) p6.line X.env = pure false := by rfl) (hw : swappedStores [.Tuple [.Name "counts" p1, .Name "loops" p2] kk pt] (.Call (.Name "gathered" p3) (.Name "web" p4 :: []) [] p5) X.env = pure none := by rfl) (h1 : (assignEach [.Tuple [.Name "counts" p1, .Name "loops" p2] kk pt] X.env).map (·.2) = [assign (.Tuple [.Name "counts" p1, .Name "loops" p2] kk pt) X.env] := by rfl) :
    VSs X W A H0 false [.Assign [.Tuple [.Name "counts" p1, .Name "loops" p2] kk pt] (.Call (.Name "gathered" p3) (.Name "web" p4 :: []) [] p5) p6, .Return (some eR) p7] (gHow mc n) := by
  obtain ⟨f, fd, ps, F, c1, c2, c3⟩ := C.ex
  refine pss_imp (pss_cons (ps_asg (pe_callS F (hr.mono hk) hg c1 c2 c3 (fun σ => passAt tk σ) (pa_cons (pe_var (i := 0) (by rw [hN]; rfl) w0) pa_nil ea) (by decide) ea hpl) (pg_any vg) hs hw h1) (pss_one (ps_ret (pe_anyZ vr)))) fun Z σ H ⟨env, I, rl, q⟩ => ?_
  obtain ⟨d, s1, s2, ts, r, rfl, ht, hl, l0, l6, hwr, q⟩ := gHow_ok (Q := fun g => PostS X.K W A H0 false I Z g) q (fun z => z)
  have fin : ∀ v I' H', Grow A H0 I' H' → Rd X.K I' v (.int (2 ^ (gaZ ts).2.toNat * r)) → Z.rt v H' := q
  obtain ⟨v, zv, rv⟩ := rl.im 0 d rfl
  refine ⟨v, zv, v, d, I, ts, rfl, rl.g.ih, rv, ht, hl, fun t b I1 H1 g fz rt => ?_⟩
  have len : σ.length = 3 := rl.len
  refine ⟨I1, H1, .tup [.adr b, .int (gaZ ts).2], [.im d, .no, .no], I1, rel_im len (fun i d' e => ?_) (fun i s e => ?_) g.ih, rt, ?_⟩
  · match i, e with
    | 0, e => cases e; exact ⟨v, zv, rv.mono g.i⟩
    | 1, e => cases e
    | 2, e => cases e
    | _ + 3, e => cases e
  · match i, e with
    | 0, e => cases e; exact .inr ⟨_, rfl⟩
    | 1, e => cases e; exact .inl rfl
    | 2, e => cases e; exact .inl rfl
    | _ + 3, e => cases e
  show GPost X.K I1 H1 [1, 2] σ I1 H1 (.ok [.im d, .im (.adr b), .im (.int (gaZ ts).2)]) _
  intro σ2 r2 _ _
  refine ⟨I1, H1, b, (gaZ ts).1, fz, _, I1, r2, ?_⟩
  have ev : fHowR mc n b (gaZ ts).1 [.im d, .im (.adr b), .im (.int (gaZ ts).2)] = .ok (.int (2 ^ (gaZ ts).2.toNat * r)) := by
    have e1 : fZ b 1 (whR mc n (gaZ ts).1) [.im d, .im (.adr b), .im (.int (gaZ ts).2)] = .ok (.int r) := by
      rw [fZ_at rfl]
      unfold whR
      rw [hwr]
    have e2 : shlD (.int 1) (.int (gaZ ts).2) = .ok (.int (2 ^ (gaZ ts).2.toNat)) := by
      show (if 0 ≤ (gaZ ts).2 ∧ (gaZ ts).2 ≤ 1000000 ∧ (1 : Int).natAbs < 2 ^ 64 then R.ok (D.int (1 * 2 ^ (gaZ ts).2.toNat)) else R.no) = _
      rw [if_pos ⟨l0, by omega, by decide⟩, Int.one_mul]
    show (((R.ok (D.int 1)).bind fun x => (R.ok (D.int (gaZ ts).2)).bind fun y => shlD x y).bind fun x => (fZ b 1 (whR mc n (gaZ ts).1) [.im d, .im (.adr b), .im (.int (gaZ ts).2)]).bind fun y => mulD x y) = _
    rw [e1]
    show ((shlD (.int 1) (.int (gaZ ts).2)).bind fun x => mulD x (.int r)) = _
    rw [e2]
    have hp := pow_le60 l6
    have bm : ∀ y : D, (R.ok y).bind (fun x => mulD x (.int r)) = mulD y (.int r) := fun _ => rfl
    rw [bm]
    generalize (2 : Int) ^ (gaZ ts).2.toNat = t at hp ⊢
    exact mul_small (by omega)
  show PostE _ _ _ _ _ (fHowR mc n b (gaZ ts).1 [.im d, .im (.adr b), .im (.int (gaZ ts).2)]) _
  rw [ev]
  exact fun v' I' H' g' rv' => fin v' I' H' ((rl.g.trans g).trans g') rv'
end
/-! ### the defs -/
section
variable {P : Program} {w : World} {K : PySem.W.Frag} {mg : Str → Option Value} {base : Heap} {mc : List D → R D} {x qual : Str} {st : Stmt} {f : Addr} {fd : FuncData} {N : List Str} {k : Nat}
theorem fn_mo (F0 : Fn K x qual st f fd) (S : FnScope N [("counts" : Str), "one", "two"] (defScope st)) (hN : N = [("counts" : Str), "one", "two", "found", "pair", "many", "ends", "other", "place"])
    (body : ∀ (cdv : Value) (A : Around) (outer : List PySem.Env) (s : Shared) (H : Hp) (E : XK), Room k (A.deeper (envOfC qual (defScope st) s.heap.objs.size f cdv)) → Takes (Cb P w K mg base N qual st f cdv A outer s H E) (WB E) →
      PassesOwn (model P w) (A.deeper (envOfC qual (defScope st) s.heap.objs.size f cdv)) (envOfC qual (defScope st) s.heap.objs.size f cdv) (Cb P w K mg base N qual st f cdv A outer s H E).xe → PSs (Cb P w K mg base N qual st f cdv A outer s H E) (defBody st) (tMo (Cb P w K mg base N qual st f cdv A outer s H E))) :
    FnOk P w K mg base (L2.CX P w) (k + 1) f fd [("counts" : Str), "one", "two"] (spMo P w K) := by
  refine F0.ok (k := k) S (fun vs H Q E ⟨_, _, _, _, _, e, _⟩ => by rw [e]; rfl) fun cdv A outer s H vs Q E hr h => ?_
  obtain ⟨a, I, kvs, p, q, rfl, ie, hA, hl, fin⟩ := h
  refine ⟨_, body cdv A outer s H E hr (takes_of rfl rfl rfl rfl) (passes_of rfl), a, I, kvs, p, q, rel_im ?_ (fun i d e => ?_) (fun i s e => ?_) ie, hA, hl, fin⟩
  · show (L2.start N [.ref a, .int p, .int q]).length = _
    rw [hN]
    rfl
  · show ∃ u, (L2.start N [.ref a, .int p, .int q])[i]? = some (some u) ∧ Rd K I u d
    rw [hN]
    match i, e with
    | 0, e => cases e; exact ⟨.ref a, rfl, .adr⟩
    | 1, e => cases e; exact ⟨.int p, rfl, .int⟩
    | 2, e => cases e; exact ⟨.int q, rfl, .int⟩
    | 3, e => cases e
    | 4, e => cases e
    | 5, e => cases e
    | 6, e => cases e
    | 7, e => cases e
    | 8, e => cases e
    | _ + 9, e => cases e
  · match i, e with
    | 0, e => cases e; exact .inr ⟨_, rfl⟩
    | 1, e => cases e; exact .inr ⟨_, rfl⟩
    | 2, e => cases e; exact .inr ⟨_, rfl⟩
    | 3, e => cases e; exact .inl rfl
    | 4, e => cases e; exact .inl rfl
    | 5, e => cases e; exact .inl rfl
    | 6, e => cases e; exact .inl rfl
    | 7, e => cases e; exact .inl rfl
    | 8, e => cases e; exact .inl rfl
    | _ + 9, e => cases e
theorem fn_ga (F0 : Fn K x qual st f fd) (S : FnScope N [("web" : Str)] (defScope st)) (hN : N = [("web" : Str), "counts", "loops", "ends", "pair"])
    (body : ∀ (cdv : Value) (A : Around) (outer : List PySem.Env) (s : Shared) (H : Hp) (E : XK), Room k (A.deeper (envOfC qual (defScope st) s.heap.objs.size f cdv)) → Takes (Cb P w K mg base N qual st f cdv A outer s H E) (WB E) →
      PassesOwn (model P w) (A.deeper (envOfC qual (defScope st) s.heap.objs.size f cdv)) (envOfC qual (defScope st) s.heap.objs.size f cdv) (Cb P w K mg base N qual st f cdv A outer s H E).xe → PSs (Cb P w K mg base N qual st f cdv A outer s H E) (defBody st) (tGat (Cb P w K mg base N qual st f cdv A outer s H E))) :
    FnOk P w K mg base (L2.CX P w) (k + 1) f fd [("web" : Str)] (spGa P w K) := by
  refine F0.ok (k := k) S (fun vs H Q E ⟨_, _, _, _, e, _⟩ => by rw [e]; rfl) fun cdv A outer s H vs Q E hr h => ?_
  obtain ⟨v, d, I, ts, rfl, ie, rd, ht, hl, fin⟩ := h
  refine ⟨_, body cdv A outer s H E hr (takes_of rfl rfl rfl rfl) (passes_of rfl), d, I, ts, rel_im ?_ (fun i d' e => ?_) (fun i s e => ?_) ie, ht, hl, fin⟩
  · show (L2.start N [v]).length = _
    rw [hN]
    rfl
  · show ∃ u, (L2.start N [v])[i]? = some (some u) ∧ Rd K I u d'
    rw [hN]
    match i, e with
    | 0, e => cases e; exact ⟨v, rfl, rd⟩
    | 1, e => cases e
    | 2, e => cases e
    | 3, e => cases e
    | 4, e => cases e
    | _ + 5, e => cases e
  · match i, e with
    | 0, e => cases e; exact .inr ⟨_, rfl⟩
    | 1, e => cases e; exact .inl rfl
    | 2, e => cases e; exact .inl rfl
    | 3, e => cases e; exact .inl rfl
    | 4, e => cases e; exact .inl rfl
    | _ + 5, e => cases e
theorem fn_wh (F0 : Fn K x qual st f fd) (S : FnScope N [("counts" : Str)] (defScope st)) (hN : N = [("counts" : Str), "one", "two", "many", "rest", "both", "pair"]) (c1 : mg x = some (.ref f)) (c2 : PySem.W.keepIn K (.ref f) = true) (c3 : Binds K fd [("counts" : Str)] [])
    (body : ∀ (n : Nat) (cdv : Value) (A : Around) (outer : List PySem.Env) (s : Shared) (H : Hp) (E : XK), Room (k + n) (A.deeper (envOfC qual (defScope st) s.heap.objs.size f cdv)) → Takes (Cb P w K mg base N qual st f cdv A outer s H E) (WB E) →
      PassesOwn (model P w) (A.deeper (envOfC qual (defScope st) s.heap.objs.size f cdv)) (envOfC qual (defScope st) s.heap.objs.size f cdv) (Cb P w K mg base N qual st f cdv A outer s H E).xe → CalWh P w K mg base x (k + n) mc n → PSs (Cb P w K mg base N qual st f cdv A outer s H E) (defBody st) (tWh (Cb P w K mg base N qual st f cdv A outer s H E) mc n)) :
    ∀ n, FnOk P w K mg base (L2.CX P w) (k + n) f fd [("counts" : Str)] (spWh P w K mc n)
  | 0 => ⟨fun vs H Q E ⟨_, _, _, _, e, _⟩ => by rw [e]; rfl, fun A outer s H args us vs Q E _ _ _ _ ⟨_, _, _, _, _, _, _, h, _⟩ => by cases h⟩
  | n + 1 => by
    have ih := fn_wh F0 S hN c1 c2 c3 body n
    refine F0.ok (k := k + n) S (fun vs H Q E ⟨_, _, _, _, e, _⟩ => by rw [e]; rfl) fun cdv A outer s H vs Q E hr h => ?_
    obtain ⟨a, I, kvs, r, rfl, ie, hA, hw, fin⟩ := h
    refine ⟨_, body n cdv A outer s H E hr (takes_of rfl rfl rfl rfl) (passes_of rfl) ⟨_, _, _, ih, c1, c2, c3⟩, a, I, kvs, r, rel_im ?_ (fun i d' e => ?_) (wh_only okN okN okN okN okN) ie, hA, hw, fin⟩
    · show (L2.start N [.ref a]).length = _
      rw [hN]
      rfl
    · show ∃ u, (L2.start N [.ref a])[i]? = some (some u) ∧ Rd K I u d'
      rw [hN]
      match i, e with
      | 0, e => cases e; exact ⟨.ref a, rfl, .adr⟩
      | 1, e => cases e
      | 2, e => cases e
      | 3, e => cases e
      | 4, e => cases e
      | 5, e => cases e
      | 6, e => cases e
      | _ + 7, e => cases e
end
end BW
/-! BTy1: typed functions, and what it is that a function over data keeps one. -/
namespace BW
open PySem PySem.Spec PyProof.Rows L2
/-! ### what names hold, where it is known -/
abbrev Ce := List (Option Sl)
inductive Has : Ce → En → Prop
  | nil : Has [] []
  | som {s c e} : Has c e → Has (some s :: c) (s :: e)
  | non {s c e} : Has c e → Has (none :: c) (s :: e)
theorem Has.get : ∀ {c : Ce} {e : En}, Has c e → ∀ {i : Nat} {s : Sl}, c[i]? = some (some s) → e[i]? = some s
  | _, _, .nil, i, s, h => by simp at h
  | _, _, .som k, 0, s, h => by simp at h ⊢; exact h
  | _, _, .non k, 0, s, h => by simp at h
  | _, _, .som k, i + 1, s, h => by simp at h ⊢; exact k.get h
  | _, _, .non k, i + 1, s, h => by simp at h ⊢; exact k.get h
theorem Has.set : ∀ {c : Ce} {e : En}, Has c e → ∀ (i : Nat) (s : Sl), Has (c.set i (some s)) (e.set i s)
  | _, _, .nil, i, s => .nil
  | _, _, .som k, 0, s => .som k
  | _, _, .non k, 0, s => .som k
  | _, _, .som k, i + 1, s => .som (k.set i s)
  | _, _, .non k, i + 1, s => .non (k.set i s)
theorem Has.unset : ∀ {c : Ce} {e : En}, Has c e → ∀ (i : Nat) (s : Sl), Has (c.set i none) (e.set i s)
  | _, _, .nil, i, s => .nil
  | _, _, .som k, 0, s => .non k
  | _, _, .non k, 0, s => .non k
  | _, _, .som k, i + 1, s => .som (k.unset i s)
  | _, _, .non k, i + 1, s => .non (k.unset i s)
/-- some of it forgotten -/
def msk : List Bool → Ce → Ce
  | true :: b, x :: c => x :: msk b c
  | false :: b, _ :: c => none :: msk b c
  | _, c => c
theorem Has.msk : ∀ (b : List Bool) {c : Ce} {e : En}, Has c e → Has (BW.msk b c) e
  | [], _, _, h => by unfold BW.msk; exact h
  | true :: _, _, _, .nil => by unfold BW.msk; exact .nil
  | false :: _, _, _, .nil => by unfold BW.msk; exact .nil
  | true :: b, _, _, .som k => .som (k.msk b)
  | true :: b, _, _, .non k => .non (k.msk b)
  | false :: b, _, _, .som k => .non (k.msk b)
  | false :: b, _, _, .non k => .non (k.msk b)
def wipeC (c : Ce) : List Nat → Ce
  | [] => c
  | v :: vs => (wipeC c vs).set v none
theorem Has.wipe {c : Ce} {e : En} (h : Has c e) : ∀ (vs : List Nat), Has (wipeC c vs) (wipeE e vs)
  | [] => h
  | v :: vs => (h.wipe vs).unset v .no

/-! ### values of types, as data -/
structure W where
  many : Int
  ties : List (Int × Int)
  deriving DecidableEq
structure Sq (α : Type) where
  tp : Bool
  l : List α
  deriving DecidableEq
section
variable {α β γ δ ε : Type}
abbrev eI (i : Int) : D := .int i
abbrev eB (b : Bool) : D := .bl b
abbrev eN (_ : Unit) : D := .non
abbrev eL (e : α → D) (l : List α) : D := .lst (l.map e)
abbrev eT (e : α → D) (l : List α) : D := .tup (l.map e)
abbrev eR (l : List Int) : D := .scr l
abbrev eP (e : α → D) (f : β → D) (p : α × β) : D := .tup [e p.1, f p.2]
abbrev eP3 (e : α → D) (f : β → D) (g : γ → D) (p : α × β × γ) : D := .tup [e p.1, f p.2.1, g p.2.2]
abbrev eW (w : W) : D := webO w.many w.ties
abbrev eX (k : Nat) : D := .exc k []
def eO (e : α → D) : Option α → D
  | none => .non
  | some a => e a
end

/-! ### what a function keeps -/
section
variable {α β τ τ' : Type}
/-- x is r, told as data; nothing is said where r tells nothing -/
def RefR (x : R D) (r : R τ) (e : τ → D) : Prop := match r with
  | .ok d => x = .ok (e d)
  | .er k p => x = .er k p
  | .no => True
def R.map (f : α → β) : R α → R β
  | .ok a => .ok (f a)
  | .er c p => .er c p
  | .no => .no
@[simp] theorem map_ok_ (f : α → β) (a : α) : (R.ok a).map f = .ok (f a) := id rfl
@[simp] theorem map_er_ (f : α → β) (c p) : (R.er c p).map f = .er c p := id rfl
@[simp] theorem bind_no_ (f : α → R β) : (R.no).bind f = .no := id rfl
theorem refR_bind {x : R D} {r : R α} {e1 : α → D} {k : D → R D} {t : α → R τ} {e : τ → D} (h : RefR x r e1) (hk : ∀ a, RefR (k (e1 a)) (t a) e) : RefR (x.bind k) (r.bind t) e := by
  cases r with
  | ok a =>
    have h : x = .ok (e1 a) := h
    rw [h]; exact hk a
  | er c p =>
    have h : x = .er c p := h
    rw [h]; exact rfl
  | no => trivial
theorem refR_p {x : R D} {a : α} {e1 : α → D} {k : D → R D} {t : R τ} {e : τ → D} (h : RefR x (.ok a) e1) (hk : RefR (k (e1 a)) t e) : RefR (x.bind k) t e := by
  have h : x = .ok (e1 a) := h
  rw [h]; exact hk
end
section
variable {α β γ δ τ τ' : Type} {c c' : Ce}
def EvE (c : Ce) (f : F) (r : R τ) (e : τ → D) : Prop := ∀ env, Has c env → RefR (f env) r e
def EvA (c : Ce) (fs : FA) (e : τ → D) (m : List D → R D) (r : R τ) : Prop := ∀ env, Has c env → RefR ((fs env).bind m) r e
def EvT (c : Ce) (t : FT) (d : D) (c' : Ce) : Prop := ∀ env, Has c env → ∃ e', t d env = .ok e' ∧ Has c' e'
def EvTs (c : Ce) (t : List D → En → R En) (d : List D) (c' : Ce) : Prop := ∀ env, Has c env → ∃ e', t d env = .ok e' ∧ Has c' e'
/-! names and constants -/
theorem ev_I {i : Nat} (e : α → D) (x : α) (h : c[i]? = some (some (.im (e x))) := by rfl) : EvE c (fI i) (.ok x) e := fun env H => by
  show fI i env = _
  unfold fI
  rw [H.get h]
theorem ev_L {i : Nat} (e : α → D) (x : α) (h : c[i]? = some (some (.im (e x))) := by rfl) : EvE c (fL i) (.ok x) e := fun env H => by
  show fL i env = _
  unfold fL
  rw [H.get h]
theorem ev_Lm {i : Nat} (e : α → D) (x : List α) (h : c[i]? = some (some (.mu (x.map e))) := by rfl) : EvE c (fL i) (.ok x) (eL e) := fun env H => by
  show fL i env = _
  unfold fL
  rw [H.get h]
theorem ev_V {i : Nat} (e : α → D) (x : List α) (h : c[i]? = some (some (.im (.lst (x.map e)))) := by rfl) : EvE c (fV i) (.ok x) (eL e) := fun env H => by
  show fV i env = _
  unfold fV
  rw [H.get h]
theorem ev_Vm {i : Nat} (e : α → D) (x : List α) (h : c[i]? = some (some (.mu (x.map e))) := by rfl) : EvE c (fV i) (.ok x) (eL e) := fun env H => by
  show fV i env = _
  unfold fV
  rw [H.get h]
theorem ev_C {d : D} (e : α → D) (x : α) (h : d = e x := by rfl) : EvE c (fC d) (.ok x) e := fun env H => by rw [h]; exact rfl
/-! operations -/
variable {f a b t : F} {e1 : α → D} {e2 : β → D} {e : τ → D}
theorem ev_cop {x : α} {e : β → D} (y : β) (h : EvE c f (.ok x) e1) (hc : e y = e1 x := by rfl) : EvE c f (.ok y) e := fun env H => by
  have := h env H
  show f env = .ok (e y)
  rw [hc]; exact this
theorem ev1p {g : D → R D} {x : α} {r : R τ} (h : EvE c a (.ok x) e1) (k : RefR (g (e1 x)) r e) : EvE c (f1 g a) r e := fun env H => refR_p (h env H) k
theorem ev2pp {g : D → D → R D} {x : α} {y : β} {r : R τ} (h1 : EvE c a (.ok x) e1) (h2 : EvE c b (.ok y) e2) (k : RefR (g (e1 x) (e2 y)) r e) : EvE c (f2 g a b) r e := fun env H => refR_p (h1 env H) (refR_p (h2 env H) k)
theorem ev2pb {g : D → D → R D} {x : α} {rb : R β} {r : β → R τ} (h1 : EvE c a (.ok x) e1) (h2 : EvE c b rb e2) (k : ∀ y, RefR (g (e1 x) (e2 y)) (r y) e) : EvE c (f2 g a b) (rb.bind r) e := fun env H => refR_p (h1 env H) (refR_bind (h2 env H) k)
theorem ev2bp {g : D → D → R D} {ra : R α} {y : β} {r : α → R τ} (h1 : EvE c a ra e1) (h2 : EvE c b (.ok y) e2) (k : ∀ x, RefR (g (e1 x) (e2 y)) (r x) e) : EvE c (f2 g a b) (ra.bind r) e := fun env H => refR_bind (h1 env H) fun x => refR_p (h2 env H) (k x)
theorem ev_not {x : Bool} (h : EvE c a (.ok x) eB) : EvE c (fNot a) (.ok (!x)) eB := fun env H => refR_p (h env H) rfl
theorem ev_notb {r : R Bool} (h : EvE c a r eB) : EvE c (fNot a) (r.map (!·)) eB := fun env H => by
  have k := h env H
  cases r with
  | ok x => exact refR_p k rfl
  | er n p =>
    have k : a env = .er n p := k
    show (a env).bind notD = _
    rw [k]; rfl
  | no => trivial
theorem ev_Ls {e : α → D} {r : R (List α)} (h : EvE c f r (eL e)) : EvE c (fLs f) r (eL e) := fun env H => by
  have k := h env H
  cases r with
  | ok x => exact refR_p (e1 := eL e) (k := lsD) k rfl
  | er n p =>
    have k : f env = .er n p := k
    show (f env).bind lsD = _
    rw [k]; rfl
  | no => trivial
/-- a value whose kind is looked at -/
theorem ev_tst {g : D → R D} {r : R τ} (h : EvE c f r e) (hg : ∀ x, g (e x) = .ok (e x)) : EvE c (f1 g f) r e := fun env H => by
  have k := h env H
  cases r with
  | ok x => exact refR_p (e1 := e) (k := g) k (hg x)
  | er n p =>
    have k : f env = .er n p := k
    show (f env).bind g = _
    rw [k]; rfl
  | no => trivial
theorem ref_cond {x y : R D} {r s : R τ} (k : Bool) (h1 : k = true → RefR x r e) (h2 : k = false → RefR y s e) : RefR (cond k x y) (cond k r s) e := by
  cases k
  · exact h2 rfl
  · exact h1 rfl
theorem blR_ref {x : R D} {r : R Bool} (h : RefR x r eB) : RefR (x.bind blR) r eB := by
  cases r with
  | ok b => exact refR_p (e1 := eB) (k := blR) h rfl
  | er n p =>
    have h : x = .er n p := h
    show x.bind blR = _
    rw [h]; rfl
  | no => trivial
theorem ev_and {k : Bool} {r : R Bool} (h1 : EvE c a (.ok k) eB) (h2 : EvE c b r eB) : EvE c (fAnd a b) (cond k r (.ok false)) eB := fun env H => refR_p (h1 env H) (ref_cond k (fun _ => blR_ref (h2 env H)) fun _ => rfl)
theorem ev_andb {k : R Bool} {r : R Bool} (h1 : EvE c a k eB) (h2 : EvE c b r eB) : EvE c (fAnd a b) (k.bind fun k => cond k r (.ok false)) eB := fun env H => refR_bind (h1 env H) fun k => ref_cond k (fun _ => blR_ref (h2 env H)) fun _ => rfl
theorem ev_andp {k l : Bool} (h1 : EvE c a (.ok k) eB) (h2 : EvE c b (.ok l) eB) : EvE c (fAnd a b) (.ok (k && l)) eB := by
  have := ev_and h1 h2
  cases k <;> exact this
/-! arguments -/
variable {fs : FA} {m : List D → R D}
theorem eva_nil {r : R τ} (h : RefR (m []) r e) : EvA c aNil e m r := fun env H => h
theorem eva_p {x : α} {r : R τ} (h : EvE c a (.ok x) e1) (k : EvA c fs e (fun ds => m (e1 x :: ds)) r) : EvA c (aCons a fs) e m r := fun env H => by
  have h1 : a env = .ok (e1 x) := h env H
  have k := k env H
  unfold aCons
  rw [h1]
  show RefR (((fs env).bind fun y => .ok (e1 x :: y)).bind m) r e
  cases hf : fs env with
  | ok ds => rw [hf] at k; exact k
  | er n p => rw [hf] at k; exact k
  | no => rw [hf] at k; exact k
theorem eva_b {ra : R α} {r : α → R τ} (h : EvE c a ra e1) (k : ∀ x, EvA c fs e (fun ds => m (e1 x :: ds)) (r x)) : EvA c (aCons a fs) e m (ra.bind r) := by
  cases ra with
  | ok x => exact eva_p h (k x)
  | er n p =>
    intro env H
    have h1 : a env = .er n p := h env H
    unfold aCons
    rw [h1]
    exact rfl
  | no => exact fun env H => trivial
theorem ev_A {r : R τ} (h : EvA c fs e m r) : EvE c (fA m fs) r e := h
/-! slices -/
variable {lo hi : FO}
/-! targets -/
theorem evt_N {i : Nat} {d : D} : EvT c (tN i) d (c.set i (some (.im d))) := fun env H => ⟨_, rfl, H.set i _⟩
theorem evts_nil : EvTs c tsNil [] c := fun env H => ⟨_, rfl, H⟩
theorem evts_cons {t : FT} {u : List D → En → R En} {d : D} {ds : List D} {c1 c2 : Ce} (h : EvT c t d c1) (k : EvTs c1 u ds c2) : EvTs c (tsCons t u) (d :: ds) c2 := fun env H => by
  obtain ⟨e1, h1, h2⟩ := h env H
  obtain ⟨e2, h3, h4⟩ := k e1 h2
  refine ⟨e2, ?_, h4⟩
  show ((t d env).bind fun e => u ds e) = _
  rw [h1]
  exact h3
theorem evt_T {n : Nat} {u : List D → En → R En} {ds : List D} (hn : ds.length = n := by rfl) (k : EvTs c u ds c') : EvT c (tT n u) (.tup ds) c' := fun env H => by
  obtain ⟨e1, h1, h2⟩ := k env H
  refine ⟨e1, ?_, h2⟩
  show (if ds.length = n then u ds env else .no) = _
  rw [if_pos hn]
  exact h1
/-! comprehensions -/
def lcT (tst : α → R Bool) (y : α → R β) : List α → R (List β)
  | [] => .ok []
  | a :: l => (tst a).bindQ fun k => cond k ((y a).bindQ fun b => (lcT tst y l).bindQ fun r => .ok (b :: r)) (lcT tst y l)
@[irreducible] def fLcT (tst : α → R Bool) (y : α → R β) (l : List α) : R (List β) := if l.length ≤ 16777216 then (lcT tst y l).bindQ .ok else .no
theorem lc_ref {tg : FT} {test elt : F} {env : En} (ea : α → D) (eb : β → D) (tst : α → R Bool) (y : α → R β) (h : ∀ x, ∃ e', tg (ea x) env = .ok e' ∧ RefR (test e') (tst x) eB ∧ RefR (elt e') (y x) eb) :
    ∀ l : List α, match lcT tst y l with
      | .ok r => lcF tg test elt env (l.map ea) = .ok (r.map eb)
      | _ => True
  | [] => rfl
  | x :: l => by
    have ih := lc_ref ea eb tst y h l
    obtain ⟨e', h1, h2, h3⟩ := h x
    unfold lcT
    have E : lcF tg test elt env ((x :: l).map ea) = (tg (ea x) env).bindQ fun e => (test e).bindQ fun
      | .bl c => cond c ((elt e).bindQ fun y => (lcF tg test elt env (l.map ea)).bindQ fun r => .ok (y :: r)) (lcF tg test elt env (l.map ea))
      | _ => .no := rfl
    rw [E, h1]
    cases ht : tst x with
    | er n p => trivial
    | no => trivial
    | ok k =>
      rw [ht] at h2
      have h2 : test e' = .ok (.bl k) := h2
      cases k with
      | false =>
        have e1 : ((R.ok e' : R En).bindQ fun e => (test e).bindQ fun
          | .bl c => cond c ((elt e).bindQ fun y => (lcF tg test elt env (l.map ea)).bindQ fun r => .ok (y :: r)) (lcF tg test elt env (l.map ea))
          | _ => .no) = lcF tg test elt env (l.map ea) := by
          show ((test e').bindQ fun
          | .bl c => cond c ((elt e').bindQ fun y => (lcF tg test elt env (l.map ea)).bindQ fun r => .ok (y :: r)) (lcF tg test elt env (l.map ea))
          | _ => .no) = _
          rw [h2]; rfl
        rw [e1]
        exact ih
      | true =>
        have e1 : ((R.ok e' : R En).bindQ fun e => (test e).bindQ fun
          | .bl c => cond c ((elt e).bindQ fun y => (lcF tg test elt env (l.map ea)).bindQ fun r => .ok (y :: r)) (lcF tg test elt env (l.map ea))
          | _ => .no) = ((elt e').bindQ fun y => (lcF tg test elt env (l.map ea)).bindQ fun r => .ok (y :: r)) := by
          show ((test e').bindQ fun
          | .bl c => cond c ((elt e').bindQ fun y => (lcF tg test elt env (l.map ea)).bindQ fun r => .ok (y :: r)) (lcF tg test elt env (l.map ea))
          | _ => .no) = _
          rw [h2]; rfl
        rw [e1]
        show match (y x).bindQ fun b => (lcT tst y l).bindQ fun r => .ok (b :: r) with
          | .ok r => ((elt e').bindQ fun y => (lcF tg test elt env (l.map ea)).bindQ fun r => .ok (y :: r)) = .ok (r.map eb)
          | _ => True
        cases hy : y x with
        | er n p => trivial
        | no => trivial
        | ok b =>
          rw [hy] at h3
          have h3 : elt e' = .ok (eb b) := h3
          rw [h3]
          cases hl : lcT tst y l with
          | er n p => trivial
          | no => trivial
          | ok r =>
            rw [hl] at ih
            have ih : lcF tg test elt env (l.map ea) = .ok (r.map eb) := ih
            rw [ih]
            exact rfl
theorem ev_lc {items test elt : F} {tg : FT} {own : List Nat} {r : R (List α)} {ea : α → D} {eb : β → D} {tst : α → R Bool} {y : α → R β} (hi : EvE c items r (eL ea)) (h : ∀ x, ∃ c', EvT (wipeC c own) tg (ea x) c' ∧ EvE c' test (tst x) eB ∧ EvE c' elt (y x) eb) : EvE c (fLc items tg test elt own) (r.bind fun l => fLcT tst y l) (eL eb) := fun env H => by
  unfold fLc
  refine refR_bind (hi env H) fun l => ?_
  show RefR (if (l.map ea).length ≤ 16777216 then (lcF tg test elt (wipeE env own) (l.map ea)).bindQ fun r => .ok (.lst r) else .no) _ _
  rw [List.length_map]
  unfold fLcT
  by_cases hz : l.length ≤ 16777216
  · rw [if_pos hz, if_pos hz]
    have k := lc_ref (tg := tg) (test := test) (elt := elt) (env := wipeE env own) ea eb tst y (fun x => by
      obtain ⟨c', h1, h2, h3⟩ := h x
      obtain ⟨e', h4, h5⟩ := h1 _ (H.wipe own)
      exact ⟨e', h4, h2 e' h5, h3 e' h5⟩) l
    cases hl : lcT tst y l with
    | ok r =>
      rw [hl] at k
      have k : lcF tg test elt (wipeE env own) (l.map ea) = .ok (r.map eb) := k
      rw [k]
      exact rfl
    | er n p => trivial
    | no => trivial
  · rw [if_neg hz, if_neg hz]
    trivial
theorem ev_lcp {items test elt : F} {tg : FT} {own : List Nat} {l : List α} {ea : α → D} {eb : β → D} {tst : α → R Bool} {y : α → R β} (hi : EvE c items (.ok l) (eL ea)) (h : ∀ x, ∃ c', EvT (wipeC c own) tg (ea x) c' ∧ EvE c' test (tst x) eB ∧ EvE c' elt (y x) eb) : EvE c (fLc items tg test elt own) (fLcT tst y l) (eL eb) := ev_lc hi h
end
end BW
/-! BTy2: typed statements. -/
namespace BW
open PySem PySem.Spec PyProof.Rows L2
inductive TR (Λ Γ ρ : Type) where
  | nx (g : Γ) | bk (l : Λ) | ct (l : Λ) | rt (d : ρ) | er (c : Nat) (p : List D) | no
section
variable {Λ Γ Δ ρ α β τ : Type}
def TR.ob (r : R α) (k : α → TR Λ Γ ρ) : TR Λ Γ ρ := match r with
  | .ok a => k a
  | .er c p => .er c p
  | .no => .no
@[simp] theorem ob_ok (a : α) (k : α → TR Λ Γ ρ) : TR.ob (.ok a) k = k a := id rfl
@[simp] theorem ob_er (c p) (k : α → TR Λ Γ ρ) : TR.ob (.er c p) k = .er c p := id rfl
def TR.sq (t : TR Λ Δ ρ) (k : Δ → TR Λ Γ ρ) : TR Λ Γ ρ := match t with
  | .nx g => k g
  | .bk l => .bk l
  | .ct l => .ct l
  | .rt d => .rt d
  | .er c p => .er c p
  | .no => .no
@[simp] theorem tsq_nx (a : Δ) (k : Δ → TR Λ Γ ρ) : TR.sq (.nx a) k = k a := id rfl
@[simp] theorem tsq_bk (a : Λ) (k : Δ → TR Λ Γ ρ) : TR.sq (.bk a) k = .bk a := id rfl
@[simp] theorem tsq_ct (a : Λ) (k : Δ → TR Λ Γ ρ) : TR.sq (.ct a) k = .ct a := id rfl
@[simp] theorem tsq_rt (a : ρ) (k : Δ → TR Λ Γ ρ) : TR.sq (.rt a) k = .rt a := id rfl
@[simp] theorem tsq_er (c p) (k : Δ → TR Λ Γ ρ) : TR.sq (.er c p) k = .er c p := id rfl
/-- what does not end by itself -/
def TR.up (t : TR Λ Empty ρ) : TR Λ Γ ρ := match t with
  | .nx g => nomatch g
  | .bk l => .bk l
  | .ct l => .ct l
  | .rt d => .rt d
  | .er c p => .er c p
  | .no => .no
@[simp] theorem up_bk (a : Λ) : (TR.up (.bk a) : TR Λ Γ ρ) = .bk a := id rfl
@[simp] theorem up_ct (a : Λ) : (TR.up (.ct a) : TR Λ Γ ρ) = .ct a := id rfl
@[simp] theorem up_rt (a : ρ) : (TR.up (.rt a) : TR Λ Γ ρ) = .rt a := id rfl
@[simp] theorem up_er (c p) : (TR.up (.er c p) : TR Λ Γ ρ) = .er c p := id rfl
/-- a loop's way on -/
def forT (b : α → Γ → TR Γ Γ ρ) : List α → Γ → TR Λ Γ ρ
  | [], g => .nx g
  | a :: l, g => match b a g with
    | .nx g => forT b l g
    | .ct g => forT b l g
    | .bk g => .nx g
    | .rt d => .rt d
    | .er c p => .er c p
    | .no => .no
def whT (t : Γ → R Bool) (b : Γ → TR Γ Γ ρ) : Nat → Γ → TR Λ Γ ρ
  | 0, _ => .no
  | n + 1, g => TR.ob (t g) fun k => cond k (match b g with
    | .nx g => whT t b n g
    | .ct g => whT t b n g
    | .bk g => .nx g
    | .rt d => .rt d
    | .er c p => .er c p
    | .no => .no) (.nx g)
def TR.noE (t : TR Λ Γ ρ) : TR Λ Γ ρ := match t with
  | .er _ _ => .no
  | t => t
@[simp] theorem noE_nx (a : Γ) : (TR.noE (.nx a) : TR Λ Γ ρ) = .nx a := id rfl
@[simp] theorem noE_bk (a : Λ) : (TR.noE (.bk a) : TR Λ Γ ρ) = .bk a := id rfl
@[simp] theorem noE_ct (a : Λ) : (TR.noE (.ct a) : TR Λ Γ ρ) = .ct a := id rfl
@[simp] theorem noE_rt (a : ρ) : (TR.noE (.rt a) : TR Λ Γ ρ) = .rt a := id rfl
def TR.trP (p : List D) (t : TR Λ Γ ρ) : TR Λ Γ ρ := match p with
  | [] => t
  | _ => .no
def TR.trE (o : Option Bool) (c : Nat) (p : List D) (t : TR Λ Γ ρ) : TR Λ Γ ρ := match o with
  | some true => TR.trP p t.noE
  | some false => .er c p
  | none => .no
def TR.tr (t : TR Λ Γ ρ) (tb : List (Nat × Bool)) (s : Nat → TR Λ Γ ρ) : TR Λ Γ ρ := match t with
  | .er c p => TR.trE (tb.lookup c) c p (s c)
  | t => t
@[simp] theorem tr_er (c p tb) (k : Nat → TR Λ Γ ρ) : TR.tr (.er c p) tb k = TR.trE (tb.lookup c) c p (k c) := id rfl
@[simp] theorem trE_t (c) (t : TR Λ Γ ρ) : TR.trE (some true) c [] t = t.noE := id rfl
@[simp] theorem trE_f (c p) (t : TR Λ Γ ρ) : TR.trE (some false) c p t = .er c p := id rfl
@[simp] theorem tr_nx (a : Γ) (tb) (k : Nat → TR Λ Γ ρ) : TR.tr (.nx a) tb k = .nx a := id rfl
@[simp] theorem tr_bk (a : Λ) (tb) (k : Nat → TR Λ Γ ρ) : TR.tr (.bk a) tb k = .bk a := id rfl
@[simp] theorem tr_ct (a : Λ) (tb) (k : Nat → TR Λ Γ ρ) : TR.tr (.ct a) tb k = .ct a := id rfl
@[simp] theorem tr_rt (a : ρ) (tb) (k : Nat → TR Λ Γ ρ) : TR.tr (.rt a) tb k = .rt a := id rfl
def TR.out (t : TR Empty Γ ρ) (dflt : R ρ) : R ρ := match t with
  | .nx _ => dflt
  | .rt d => .ok d
  | .er c p => .er c p
  | _ => .no
@[simp] theorem out_nx (a : Γ) (r : R ρ) : TR.out (.nx a) r = r := id rfl
@[simp] theorem out_rt (a : ρ) (r : R ρ) : TR.out (.rt a : TR Empty Γ ρ) r = .ok a := id rfl
@[simp] theorem out_er (c p) (r : R ρ) : TR.out (.er c p : TR Empty Γ ρ) r = .er c p := id rfl

/-! ### what a statement keeps -/
def Sim (c : Ce) (g : G) (t : TR Λ Γ ρ) (out : Γ → Ce) (lo : Λ → Ce) (ke : En → Prop) (e : ρ → D) : Prop := ∀ env, Has c env → match t with
  | .nx x => ∃ e', g env = .nx e' ∧ Has (out x) e'
  | .bk x => ∃ e', g env = .bk e' ∧ Has (lo x) e'
  | .ct x => ∃ e', g env = .ct e' ∧ Has (lo x) e'
  | .rt d => g env = .rt (e d)
  | .er k p => ∃ e', g env = .er e' k p ∧ ke e'
  | .no => True
/-- what holds of the names at an error -/
def Kp (c : Ce) (ke : En → Prop) : Prop := ∀ env, Has c env → ke env
abbrev keT : En → Prop := fun _ => True
theorem kpT {c : Ce} : Kp c keT := fun _ _ => trivial
theorem kpM {c ck : Ce} (b : List Bool) (h : ck = msk b c := by rfl) : Kp c (Has ck) := fun env H => h ▸ H.msk b
variable {c c' : Ce} {g g1 g2 : G} {f : F} {out : Γ → Ce} {lo : Λ → Ce} {ke : En → Prop} {e : ρ → D} {e1 : α → D} {e2 : β → D}
theorem sim_last {t : TR Λ Γ ρ} (h : Sim c (gSeq g gNext) t out lo ke e) : Sim c g t out lo ke e := fun env H => by
  have k := h env H
  have E : gSeq g gNext env = g env := by
    unfold gSeq gNext
    cases g env <;> rfl
  rw [E] at k
  exact k
theorem sim_next {x : Γ} (b : List Bool) (h : out x = msk b c := by rfl) : Sim c gNext (.nx x) out lo ke e := fun env H => ⟨env, rfl, h ▸ H.msk b⟩
theorem sim_seq {out1 : Δ → Ce} {t1 : TR Λ Δ ρ} {t2 : Δ → TR Λ Γ ρ} (h1 : Sim c g1 t1 out1 lo ke e) (h2 : ∀ x, Sim (out1 x) g2 (t2 x) out lo ke e) : Sim c (gSeq g1 g2) (t1.sq t2) out lo ke e := fun env H => by
  have k := h1 env H
  unfold gSeq
  cases t1 with
  | nx x =>
    obtain ⟨e', a, b⟩ := k
    rw [a]
    exact h2 x e' b
  | bk x =>
    obtain ⟨e', a, b⟩ := k
    rw [a]
    exact ⟨e', rfl, b⟩
  | ct x =>
    obtain ⟨e', a, b⟩ := k
    rw [a]
    exact ⟨e', rfl, b⟩
  | rt d =>
    have k : g1 env = .rt (e d) := k
    rw [k]
    exact rfl
  | er n p =>
    obtain ⟨e', a, b⟩ := k
    rw [a]
    exact ⟨e', rfl, b⟩
  | no => trivial
/-- what does not end by itself ends a row of statements -/
theorem sim_end {out1 : Empty → Ce} {t1 : TR Λ Empty ρ} (h1 : Sim c g1 t1 out1 lo ke e) : Sim c (gSeq g1 g2) (t1.up : TR Λ Γ ρ) out lo ke e := fun env H => by
  have k := h1 env H
  unfold gSeq
  cases t1 with
  | nx x => exact nomatch x
  | bk x =>
    obtain ⟨e', a, b⟩ := k
    rw [a]
    exact ⟨e', rfl, b⟩
  | ct x =>
    obtain ⟨e', a, b⟩ := k
    rw [a]
    exact ⟨e', rfl, b⟩
  | rt d =>
    have k : g1 env = .rt (e d) := k
    rw [k]
    exact rfl
  | er n p =>
    obtain ⟨e', a, b⟩ := k
    rw [a]
    exact ⟨e', rfl, b⟩
  | no => trivial
/-! the way of a value into a row of statements -/
/-- one statement over a value: where it goes on -/
theorem step_of {r : R α} {t : α → TR Λ Γ ρ} {F1 : F} {K : D → En → SR} {c1 : α → Ce} (hk : Kp c ke) (hg : ∀ env, g1 env = SR.of env (F1 env) fun d => K d env) (h : EvE c F1 r e1) (k : ∀ x env, Has c env → ∃ e', K (e1 x) env = .nx e' ∧ Has (c1 x) e') (h2 : ∀ x, Sim (c1 x) g2 (t x) out lo ke e) : Sim c (gSeq g1 g2) (TR.ob r t) out lo ke e := fun env H => by
  have q := h env H
  have E : gSeq g1 g2 env = SR.sq (SR.of env (F1 env) fun d => K d env) g2 := by show SR.sq (g1 env) g2 = _; rw [hg]
  rw [E]
  cases r with
  | ok x =>
    have q : F1 env = .ok (e1 x) := q
    rw [q]
    obtain ⟨e', a, b⟩ := k x env H
    have E2 : (SR.of env (R.ok (e1 x)) fun d => K d env) = K (e1 x) env := rfl
    rw [E2, a]
    exact h2 x e' b
  | er n p =>
    have q : F1 env = .er n p := q
    rw [q]
    exact ⟨env, rfl, hk env H⟩
  | no => trivial
theorem step_p {x : α} {t : TR Λ Γ ρ} {F1 : F} {K : D → En → SR} {c1 : Ce} (hg : ∀ env, g1 env = SR.of env (F1 env) fun d => K d env) (h : EvE c F1 (.ok x) e1) (k : ∀ env, Has c env → ∃ e', K (e1 x) env = .nx e' ∧ Has c1 e') (h2 : Sim c1 g2 t out lo ke e) : Sim c (gSeq g1 g2) t out lo ke e := fun env H => by
  have q : F1 env = .ok (e1 x) := h env H
  have E : gSeq g1 g2 env = SR.sq (SR.of env (F1 env) fun d => K d env) g2 := by show SR.sq (g1 env) g2 = _; rw [hg]
  rw [E, q]
  obtain ⟨e', a, b⟩ := k env H
  have E2 : (SR.of env (R.ok (e1 x)) fun d => K d env) = K (e1 x) env := rfl
  rw [E2, a]
  exact h2 e' b
theorem sim_set {i : Nat} {x : α} {t : TR Λ Γ ρ} (h : EvE c f (.ok x) e1) (k : Sim (c.set i (some (.im (e1 x)))) g t out lo ke e) : Sim c (gSeq (gSet i f) g) t out lo ke e :=
  step_p (K := fun d env => .nx (env.set i (.im d))) (fun _ => rfl) h (fun env H => ⟨_, rfl, H.set i _⟩) k
theorem sim_setb {i : Nat} {r : R α} {t : α → TR Λ Γ ρ} (hk : Kp c ke) (h : EvE c f r e1) (k : ∀ x, Sim (c.set i (some (.im (e1 x)))) g (t x) out lo ke e) : Sim c (gSeq (gSet i f) g) (TR.ob r t) out lo ke e :=
  step_of (K := fun d env => .nx (env.set i (.im d))) hk (fun _ => rfl) h (fun x env H => ⟨_, rfl, H.set i _⟩) k
theorem sim_setM {i : Nat} {x : List α} {t : TR Λ Γ ρ} (h : EvE c f (.ok x) (eL e1)) (k : Sim (c.set i (some (.mu (x.map e1)))) g t out lo ke e) : Sim c (gSeq (gSetM i f) g) t out lo ke e :=
  step_p (K := fun d env => match d with | .lst l => .nx (env.set i (.mu l)) | _ => .no) (fun _ => rfl) h (fun env H => ⟨_, rfl, H.set i _⟩) k
theorem sim_setMb {i : Nat} {r : R (List α)} {t : List α → TR Λ Γ ρ} (hk : Kp c ke) (h : EvE c f r (eL e1)) (k : ∀ x : List α, Sim (c.set i (some (.mu (x.map e1)))) g (t x) out lo ke e) : Sim c (gSeq (gSetM i f) g) (TR.ob r t) out lo ke e :=
  step_of (K := fun d env => match d with | .lst l => .nx (env.set i (.mu l)) | _ => .no) hk (fun _ => rfl) h (fun x env H => ⟨_, rfl, H.set i _⟩) k
theorem sim_dropb {r : R α} {t : α → TR Λ Γ ρ} (hk : Kp c ke) (h : EvE c f r e1) (k : ∀ x, Sim c g (t x) out lo ke e) : Sim c (gSeq (gDrop f) g) (TR.ob r t) out lo ke e :=
  step_of (K := fun d env => .nx env) hk (fun _ => rfl) h (fun x env H => ⟨_, rfl, H⟩) k
theorem sim_unpb {tg : FT} {r : R α} {c1 : α → Ce} {t : α → TR Λ Γ ρ} (hk : Kp c ke) (h : EvE c f r e1) (ht : ∀ x, EvT c tg (e1 x) (c1 x)) (k : ∀ x, Sim (c1 x) g (t x) out lo ke e) : Sim c (gSeq (gUnp tg f) g) (TR.ob r t) out lo ke e :=
  step_of (K := fun d env => match tg d env with | .ok e => .nx e | _ => .no) hk (fun _ => rfl) h (fun x env H => by
    obtain ⟨e', a, b⟩ := ht x env H
    exact ⟨e', by rw [a], b⟩) k
theorem sim_ret {x : ρ} (h : EvE c f (.ok x) e) : Sim c (gRet f) (.rt x : TR Λ Γ ρ) out lo ke e := fun env H => by
  have q : f env = .ok (e x) := h env H
  show gRet f env = _
  unfold gRet
  rw [q]; rfl
theorem sim_retb {r : R ρ} (hk : Kp c ke) (h : EvE c f r e) : Sim c (gRet f) (TR.ob r .rt : TR Λ Γ ρ) out lo ke e := fun env H => by
  have q := h env H
  cases r with
  | ok x =>
    have q : f env = .ok (e x) := q
    show gRet f env = _
    unfold gRet
    rw [q]; rfl
  | er n p =>
    have q : f env = .er n p := q
    refine ⟨env, ?_, hk env H⟩
    unfold gRet
    rw [q]; rfl
  | no => trivial
theorem sim_retM {i : Nat} {x : ρ} {l : List D} (h : c[i]? = some (some (.mu l)) := by rfl) (he : e x = .lst l := by rfl) : Sim c (gRetM i) (.rt x : TR Λ Γ ρ) out lo ke e := fun env H => by
  have q := H.get h
  show gRetM i env = _
  unfold gRetM
  rw [q, he]
theorem sim_raise {k : Nat} (hk : Kp c ke) : Sim c (gRaise k) (.er k [] : TR Λ Γ ρ) out lo ke e := fun env H => ⟨env, rfl, hk env H⟩
theorem sim_if {t : F} {a b : G} {k : Bool} {r s : TR Λ Γ ρ} (ht : EvE c t (.ok k) eB) (h1 : Sim c a r out lo ke e) (h2 : Sim c b s out lo ke e) : Sim c (gIf t a b) (cond k r s) out lo ke e := fun env H => by
  have q : t env = .ok (.bl k) := ht env H
  have E : gIf t a b env = cond k (a env) (b env) := gIf_e q
  rw [E]
  cases k
  · exact h2 env H
  · exact h1 env H
theorem sim_ifb {t : F} {a b : G} {k : R Bool} {r s : TR Λ Γ ρ} (hk : Kp c ke) (ht : EvE c t k eB) (h1 : Sim c a r out lo ke e) (h2 : Sim c b s out lo ke e) : Sim c (gIf t a b) (TR.ob k fun k => cond k r s) out lo ke e := by
  cases k with
  | ok k => exact sim_if ht h1 h2
  | er n p =>
    intro env H
    have q : t env = .er n p := ht env H
    refine ⟨env, ?_, hk env H⟩
    unfold gIf
    rw [q]; rfl
  | no => exact fun _ _ => trivial
/-- .. of which the one does not end by itself -/
theorem sim_guard {t : F} {a : G} {k : Bool} {out1 : Empty → Ce} {r : TR Λ Empty ρ} {s : TR Λ Γ ρ} (ht : EvE c t (.ok k) eB) (h1 : Sim c a r out1 lo ke e) (h2 : Sim c g s out lo ke e) : Sim c (gSeq (gIf t a gNext) g) (cond k r.up s) out lo ke e := fun env H => by
  have q : t env = .ok (.bl k) := ht env H
  have E : gIf t a gNext env = cond k (a env) (.nx env) := gIf_e q
  cases k
  · have E2 : gSeq (gIf t a gNext) g env = g env := by unfold gSeq; rw [E]; rfl
    rw [E2]
    exact h2 env H
  · have E2 : gSeq (gIf t a gNext) g env = gSeq a g env := by unfold gSeq; rw [E]; rfl
    rw [E2]
    exact sim_end h1 env H
theorem sim_guardb {t : F} {a : G} {k : R Bool} {out1 : Empty → Ce} {r : TR Λ Empty ρ} {s : TR Λ Γ ρ} (hk : Kp c ke) (ht : EvE c t k eB) (h1 : Sim c a r out1 lo ke e) (h2 : Sim c g s out lo ke e) : Sim c (gSeq (gIf t a gNext) g) (TR.ob k fun k => cond k r.up s) out lo ke e := by
  cases k with
  | ok k => exact sim_guard ht h1 h2
  | er n p =>
    intro env H
    have q : t env = .er n p := ht env H
    refine ⟨env, ?_, hk env H⟩
    unfold gSeq gIf
    rw [q]; rfl
  | no => exact fun _ _ => trivial
/-! lists that change -/
theorem sim_frz {i : Nat} {l : List D} {t : TR Λ Γ ρ} (h : c[i]? = some (some (.mu l)) := by rfl) (k : Sim (c.set i (some (.im (.lst l)))) g t out lo ke e) : Sim c (gSeq (gFrz i) g) t out lo ke e := fun env H => by
  have q := H.get h
  have E : gSeq (gFrz i) g env = g (env.set i (.im (.lst l))) := by unfold gSeq; rw [gFrz_at q]
  rw [E]
  exact k _ (H.set i _)
def RefO (x : Option (List D)) (r : R (List α)) (e : α → D) : Prop := match r with
  | .ok l => x = some (l.map e)
  | .er _ _ => False
  | .no => True
theorem sim_mut {i : Nat} {f : F} {x : α} {l : List β} {K : List D → D → Option (List D)} {r : R (List β)} {t : List β → TR Λ Γ ρ} (hc : c[i]? = some (some (.mu (l.map e2))) := by rfl) (h : EvE c f (.ok x) e1) (hr : RefO (K (l.map e2) (e1 x)) r e2) (k : ∀ m : List β, Sim (c.set i (some (.mu (m.map e2)))) g (t m) out lo ke e) : Sim c (gSeq (gMut i f K) g) (TR.ob r t) out lo ke e := by
  cases r with
  | er n p => exact hr.elim
  | no => exact fun _ _ => trivial
  | ok m =>
    have hr : K (l.map e2) (e1 x) = some (m.map e2) := hr
    refine fun env H => ?_
    have q1 := H.get hc
    have q2 : f env = .ok (e1 x) := h env H
    have E : gMut i f K env = .nx (env.set i (.mu (m.map e2))) := by
      unfold gMut
      rw [q1, q2]
      show (match K (l.map e2) (e1 x) with | some m => SR.nx (env.set i (.mu m)) | none => .no) = _
      rw [hr]
    have E2 : gSeq (gMut i f K) g env = g (env.set i (.mu (m.map e2))) := by unfold gSeq; rw [E]
    rw [E2]
    exact k m _ (H.set i _)
theorem sim_mutb {i : Nat} {f : F} {rx : R α} {l : List β} {K : List D → D → Option (List D)} {r : α → R (List β)} {t : List β → TR Λ Γ ρ} (hk : Kp c ke) (hc : c[i]? = some (some (.mu (l.map e2))) := by rfl) (h : EvE c f rx e1) (hr : ∀ x, RefO (K (l.map e2) (e1 x)) (r x) e2) (k : ∀ m : List β, Sim (c.set i (some (.mu (m.map e2)))) g (t m) out lo ke e) : Sim c (gSeq (gMut i f K) g) (TR.ob (rx.bind r) t) out lo ke e := by
  cases rx with
  | ok x => exact sim_mut hc h (hr x) k
  | er n p =>
    intro env H
    have q1 := H.get hc
    have q2 : f env = .er n p := h env H
    refine ⟨env, ?_, hk env H⟩
    have E : gMut i f K env = .er env n p := by unfold gMut; rw [q1, q2]; rfl
    unfold gSeq; rw [E]
  | no => exact fun _ _ => trivial
@[irreducible] def appT (l : List α) (x : α) : R (List α) := if l.length < 16777216 then .ok (l ++ [x]) else .no
@[irreducible] def extT (l m : List α) : R (List α) := if l.length + m.length ≤ 16777216 then .ok (l ++ m) else .no
theorem ro_app {l : List α} {x : α} : RefO (kApp (l.map e1) (e1 x)) (appT l x) e1 := by
  unfold appT kApp
  rw [List.length_map, sz_line]
  by_cases h : l.length < 16777216
  · rw [if_pos h, if_pos h]; show _ = _; simp
  · rw [if_neg h, if_neg h]; trivial
theorem ro_ext {l m : List α} : RefO (kExt (l.map e1) (eL e1 m)) (extT l m) e1 := by
  unfold extT
  show RefO (if (l.map e1).length + (m.map e1).length ≤ sizeLine then some (l.map e1 ++ m.map e1) else none) _ _
  rw [List.length_map, List.length_map, sz_line]
  by_cases h : l.length + m.length ≤ 16777216
  · rw [if_pos h, if_pos h]; show _ = _; simp
  · rw [if_neg h, if_neg h]; trivial
/-! name = list.pop(..) -/
@[irreducible] def popT (l : List α) : R (List α × α) := match l[l.length - 1]? with
  | some d => .ok (l.dropLast, d)
  | none => .no
theorem sim_pop {i j : Nat} {l : List α} {t : List α × α → TR Λ Γ ρ} (hc : c[i]? = some (some (.mu (l.map e1))) := by rfl) (k : ∀ m : List α × α, Sim ((c.set i (some (.mu (m.1.map e1)))).set j (some (.im (e1 m.2)))) g (t m) out lo ke e) : Sim c (gSeq (gPop j i) g) (TR.ob (popT l) t) out lo ke e := fun env H => by
  have q1 := H.get hc
  unfold popT
  cases hl : l[l.length - 1]? with
  | none => trivial
  | some d =>
    have E : gPop j i env = .nx ((env.set i (.mu (l.dropLast.map e1))).set j (.im (e1 d))) := by
      unfold gPop
      rw [q1]
      show (match (l.map e1)[(l.map e1).length - 1]? with | some d => SR.nx ((env.set i (.mu (l.map e1).dropLast)).set j (.im d)) | none => .no) = _
      rw [List.length_map, List.getElem?_map, hl, List.map_dropLast]
      rfl
    have E2 : gSeq (gPop j i) g env = g ((env.set i (.mu (l.dropLast.map e1))).set j (.im (e1 d))) := by unfold gSeq; rw [E]
    rw [E2]
    exact k (l.dropLast, d) _ ((H.set i _).set j _)
/-! name[index] = value -/
theorem sim_aug {i : Nat} {f : F} {op : Int → Int → Int} {x y : Int} {t : TR Λ Γ ρ} (hc : c[i]? = some (some (.im (eI x))) := by rfl) (h : EvE c f (.ok y) eI) (k : Sim (c.set i (some (.im (eI (op x y))))) g t out lo ke e) : Sim c (gSeq (gAug i f op) g) t out lo ke e := fun env H => by
  have q1 := H.get hc
  have q2 : f env = .ok (.int y) := h env H
  have E : gAug i f op env = .nx (env.set i (.im (.int (op x y)))) := by unfold gAug; rw [q1, q2]; rfl
  have E2 : gSeq (gAug i f op) g env = g (env.set i (.im (.int (op x y)))) := by unfold gSeq; rw [E]
  rw [E2]
  exact k _ (H.set i _)
end
/-! ### loops -/
section
variable {Λ Γ Δ ρ α β τ : Type} {c c' : Ce} {g g1 g2 : G} {f : F} {out : Γ → Ce} {lo : Λ → Ce} {ke : En → Prop} {e : ρ → D} {e1 : α → D} {e2 : β → D}
theorem forT_ref {t : FT} {body : G} {b : α → Γ → TR Γ Γ ρ} (inv : Γ → Ce) (hb : ∀ a x, ∃ c', EvT (inv x) t (e1 a) c' ∧ Sim c' body (b a x) inv inv ke e) : ∀ (l : List α) (x : Γ), Sim (inv x) (forF t body (l.map e1)) (forT b l x : TR Λ Γ ρ) inv lo ke e
  | [], x => fun env H => ⟨env, rfl, H⟩
  | a :: l, x => fun env H => by
    obtain ⟨c', h1, h2⟩ := hb a x
    obtain ⟨e', a1, a2⟩ := h1 env H
    have k := h2 e' a2
    have E : forF t body ((a :: l).map e1) env = match body e' with | .nx e => forF t body (l.map e1) e | .ct e => forF t body (l.map e1) e | .bk e => .nx e | r => r := by
      show (match t (e1 a) env with | .ok e => (match body e with | .nx e => forF t body (l.map e1) e | .ct e => forF t body (l.map e1) e | .bk e => .nx e | r => r) | _ => .no) = _
      rw [a1]
    rw [E]
    unfold forT
    cases hk : b a x with
    | nx y =>
      rw [hk] at k
      obtain ⟨e2, k1, k2⟩ := k
      rw [k1]
      exact forT_ref inv hb l y e2 k2
    | ct y =>
      rw [hk] at k
      obtain ⟨e2, k1, k2⟩ := k
      rw [k1]
      exact forT_ref inv hb l y e2 k2
    | bk y =>
      rw [hk] at k
      obtain ⟨e2, k1, k2⟩ := k
      rw [k1]
      exact ⟨e2, rfl, k2⟩
    | rt d =>
      rw [hk] at k
      have k : body e' = .rt (e d) := k
      rw [k]
    | er n p =>
      rw [hk] at k
      obtain ⟨e2, k1, k2⟩ := k
      rw [k1]
      exact ⟨e2, rfl, k2⟩
    | no => trivial
theorem sim_for {items : F} {t : FT} {body : G} {l : List α} {x0 : Γ} (b : α → Γ → TR Γ Γ ρ) (inv : Γ → Ce) (bits : List Bool) (hi : EvE c items (.ok l) (eL e1)) (hb : ∀ a x, ∃ c', EvT (inv x) t (e1 a) c' ∧ Sim c' body (b a x) inv inv ke e) (h0 : inv x0 = msk bits c := by rfl) : Sim c (gFor items t body) (forT b l x0 : TR Λ Γ ρ) inv lo ke e := fun env H => by
  have q : items env = .ok (.lst (l.map e1)) := hi env H
  have E : gFor items t body env = forF t body (l.map e1) env := gFor_e q
  rw [E]
  exact forT_ref inv hb l x0 env (h0 ▸ H.msk bits)
theorem sim_forb {items : F} {t : FT} {body : G} {r : R (List α)} {x0 : Γ} (hk : Kp c ke) (b : α → Γ → TR Γ Γ ρ) (inv : Γ → Ce) (bits : List Bool) (hi : EvE c items r (eL e1)) (hb : ∀ a x, ∃ c', EvT (inv x) t (e1 a) c' ∧ Sim c' body (b a x) inv inv ke e) (h0 : inv x0 = msk bits c := by rfl) : Sim c (gFor items t body) (TR.ob r fun l => forT b l x0 : TR Λ Γ ρ) inv lo ke e := by
  cases r with
  | ok l => exact sim_for b inv bits hi hb h0
  | er m p =>
    intro env H
    have q2 : items env = .er m p := hi env H
    refine ⟨env, ?_, hk env H⟩
    unfold gFor; rw [q2]; rfl
  | no => exact fun _ _ => trivial
theorem whT_ref {cf : F} {body : G} {tt : Γ → R Bool} {b : Γ → TR Γ Γ ρ} (inv : Γ → Ce) (hk : ∀ x, Kp (inv x) ke) (hc : ∀ x, EvE (inv x) cf (tt x) eB) (hb : ∀ x, Sim (inv x) body (b x) inv inv ke e) : ∀ (n : Nat) (x : Γ), Sim (inv x) (whF cf body n) (whT tt b n x : TR Λ Γ ρ) inv lo ke e
  | 0, x => fun env H => trivial
  | n + 1, x => fun env H => by
    have q := hc x env H
    unfold whT
    have E : whF cf body (n + 1) env = .of env (cf env) fun
      | .bl t => cond t (match body env with
        | .nx e => whF cf body n e
        | .ct e => whF cf body n e
        | .bk e => .nx e
        | r => r) (.nx env)
      | _ => .no := rfl
    rw [E]
    cases ht : tt x with
    | no => trivial
    | er m p =>
      rw [ht] at q
      have q : cf env = .er m p := q
      rw [q]
      exact ⟨env, rfl, hk x env H⟩
    | ok k =>
      rw [ht] at q
      have q : cf env = .ok (.bl k) := q
      rw [q]
      cases k with
      | false => exact ⟨env, rfl, H⟩
      | true =>
        have k := hb x env H
        have E2 : (SR.of env (R.ok (D.bl true)) fun
          | .bl t => cond t (match body env with
            | .nx e => whF cf body n e
            | .ct e => whF cf body n e
            | .bk e => .nx e
            | r => r) (.nx env)
          | _ => .no) = match body env with
            | .nx e => whF cf body n e
            | .ct e => whF cf body n e
            | .bk e => .nx e
            | r => r := rfl
        rw [E2]
        show match (match b x with
          | .nx g => whT tt b n g
          | .ct g => whT tt b n g
          | .bk g => .nx g
          | .rt d => .rt d
          | .er c p => .er c p
          | .no => .no : TR Λ Γ ρ) with | _ => _
        cases hk2 : b x with
        | nx y =>
          rw [hk2] at k
          obtain ⟨e2, k1, k2⟩ := k
          rw [k1]
          exact whT_ref inv hk hc hb n y e2 k2
        | ct y =>
          rw [hk2] at k
          obtain ⟨e2, k1, k2⟩ := k
          rw [k1]
          exact whT_ref inv hk hc hb n y e2 k2
        | bk y =>
          rw [hk2] at k
          obtain ⟨e2, k1, k2⟩ := k
          rw [k1]
          exact ⟨e2, rfl, k2⟩
        | rt d =>
          rw [hk2] at k
          have k : body env = .rt (e d) := k
          rw [k]
          exact rfl
        | er m p =>
          rw [hk2] at k
          obtain ⟨e2, k1, k2⟩ := k
          rw [k1]
          exact ⟨e2, rfl, k2⟩
        | no => trivial
theorem sim_while {cf : F} {body : G} {n : Nat} {x0 : Γ} (tt : Γ → R Bool) (b : Γ → TR Γ Γ ρ) (inv : Γ → Ce) (bits : List Bool) (hk : ∀ x, Kp (inv x) ke) (hc : ∀ x, EvE (inv x) cf (tt x) eB) (hb : ∀ x, Sim (inv x) body (b x) inv inv ke e) (h0 : inv x0 = msk bits c := by rfl) : Sim c (gWhile n cf body) (whT tt b n x0 : TR Λ Γ ρ) inv lo ke e := fun env H => whT_ref inv hk hc hb n x0 env (h0 ▸ H.msk bits)
/-! ### try -/
theorem sim_try {i : Nat} {tb : List (Nat × Bool)} {body suite : G} {t : TR Λ Γ ρ} {s : Nat → TR Λ Γ ρ} {ck : Ce} (hn : ∀ x, out x = (out x).set i none) (hn2 : ∀ x, lo x = (lo x).set i none) (hke : Kp ck ke) (hb : Sim c body t out lo (Has ck) e) (hs : ∀ k, Sim (ck.set i (some (.im (eX k)))) suite (s k) out lo keT e) : Sim c (gTry i tb body suite) (t.tr tb s) out lo ke e := fun env H => by
  have k := hb env H
  unfold gTry
  cases t with
  | nx x =>
    obtain ⟨e', a, b⟩ := k
    rw [a]
    exact ⟨e', rfl, b⟩
  | bk x =>
    obtain ⟨e', a, b⟩ := k
    rw [a]
    exact ⟨e', rfl, b⟩
  | ct x =>
    obtain ⟨e', a, b⟩ := k
    rw [a]
    exact ⟨e', rfl, b⟩
  | rt d =>
    have k : body env = .rt (e d) := k
    rw [k]
    exact rfl
  | no => trivial
  | er n p =>
    obtain ⟨e', a, b⟩ := k
    rw [a]
    rw [tr_er]
    cases hl : tb.lookup n with
    | none => trivial
    | some k =>
      cases k with
      | false =>
        refine ⟨e', ?_, hke e' b⟩
        simp only [SR.tryK, hl]
      | true =>
        cases p with
        | cons => trivial
        | nil =>
          have E : SR.tryK (.er e' n []) i tb suite = suiteEnd i (suite (e'.set i (.im (.exc n [])))) := tryK_er hl
          rw [E, trE_t]
          have q := hs n _ (b.set i (.im (.exc n [])))
          cases hsn : s n with
          | nx x =>
            rw [hsn] at q
            obtain ⟨e2, q1, q2⟩ := q
            rw [q1]
            exact ⟨_, rfl, hn x ▸ q2.unset i .no⟩
          | bk x =>
            rw [hsn] at q
            obtain ⟨e2, q1, q2⟩ := q
            rw [q1]
            exact ⟨_, rfl, hn2 x ▸ q2.unset i .no⟩
          | ct x =>
            rw [hsn] at q
            obtain ⟨e2, q1, q2⟩ := q
            rw [q1]
            exact ⟨_, rfl, hn2 x ▸ q2.unset i .no⟩
          | rt d =>
            rw [hsn] at q
            have q : suite _ = .rt (e d) := q
            rw [q]
            exact rfl
          | er m p => trivial
          | no => trivial
/-! ### defs -/
theorem ref_def {n : Nat} {fl : List Bool} {g : G} {ds : List D} {t : TR Empty Γ ρ} {dflt : R ρ} {out : Γ → Ce} {c : Ce} (hl : ds.length = fl.length) (hc : Has c (env0 n fl ds)) (h : Sim c g t out (fun x => nomatch x) keT e) (hd : (∃ d, dflt = .ok d ∧ e d = .non) ∨ dflt = .no) : RefR (defD n fl g ds) (t.out dflt) e := by
  have k := h _ hc
  unfold defD
  rw [if_pos hl]
  cases t with
  | nx x =>
    obtain ⟨e', a, b⟩ := k
    rw [a]
    rcases hd with ⟨d, rfl, hd⟩ | rfl
    · show R.ok D.non = .ok (e d)
      rw [hd]
    · trivial
  | bk x => exact nomatch x
  | ct x => exact nomatch x
  | rt d =>
    have k : g (env0 n fl ds) = .rt (e d) := k
    rw [k]
    exact rfl
  | er m p =>
    obtain ⟨e', a, b⟩ := k
    rw [a]
    exact rfl
  | no => trivial
theorem ref_defN {n : Nat} {fl : List Bool} {g : G} {ds : List D} {t : TR Empty Γ ρ} {out : Γ → Ce} {c : Ce} (hl : ds.length = fl.length) (hc : Has c (env0 n fl ds)) (h : Sim c g t out (fun x => nomatch x) keT e) : RefR (defN n fl g ds) (t.out .no) e := by
  have k := h _ hc
  unfold defN
  rw [if_pos hl]
  cases t with
  | nx x => trivial
  | bk x => exact nomatch x
  | ct x => exact nomatch x
  | rt d =>
    have k : g (env0 n fl ds) = .rt (e d) := k
    rw [k]
    exact rfl
  | er m p =>
    obtain ⟨e', a, b⟩ := k
    rw [a]
    exact rfl
  | no => trivial
end
end BW
/-! BTy3: the operations, typed. -/
namespace BW
open PySem PySem.Spec PyProof.Rows L2
section
variable {α β γ δ τ : Type} {e : α → D} {e1 : α → D} {e2 : β → D} {e3 : γ → D} {e4 : δ → D}
/-! ### whole numbers -/
theorem rf_add {a b : Int} : RefR (addD (eI a) (eI b)) (.ok (a + b)) eI := rfl
theorem rf_sub {a b : Int} : RefR (subD (eI a) (eI b)) (.ok (a - b)) eI := rfl
theorem rf_lt {a b : Int} : RefR (ltD (eI a) (eI b)) (.ok (decide (a < b))) eB := rfl
theorem rf_gt {a b : Int} : RefR (gtD (eI a) (eI b)) (.ok (decide (b < a))) eB := rfl
theorem rf_ge {a b : Int} : RefR (geD (eI a) (eI b)) (.ok (decide (b ≤ a))) eB := rfl
theorem ref_ite {c : Prop} [Decidable c] {x : D} {a : α} (h : x = e a) : RefR (if c then .ok x else .no) (if c then .ok a else .no : R α) e := by
  by_cases hc : c
  · rw [if_pos hc, if_pos hc, h]; exact rfl
  · rw [if_neg hc, if_neg hc]; trivial
@[irreducible] def mulT (i j : Int) : R Int := if smallI i || smallI j || decide (i.natAbs.log2 + j.natAbs.log2 < 1000000) then .ok (i * j) else .no
theorem rf_mul {i j : Int} : RefR (mulD (eI i) (eI j)) (mulT i j) eI := by
  unfold mulT
  have E : mulD (eI i) (eI j) = if smallI i || smallI j || decide (i.natAbs.log2 + j.natAbs.log2 < 1000000) then .ok (.int (i * j)) else .no := by simp only [mulD]
  rw [E]
  exact ref_ite (e := eI) rfl
theorem rf_mulL {i j : Int} (h : smallI i = true := by decide +kernel) : RefR (mulD (eI i) (eI j)) (.ok (i * j)) eI := mul_ok (.inl h)
theorem rf_mulR {i j : Int} (h : smallI j = true := by decide +kernel) : RefR (mulD (eI i) (eI j)) (.ok (i * j)) eI := mul_ok (.inr h)
@[irreducible] def fdivT (i j : Int) : R Int := if 0 < j ∧ j.natAbs.log2 < 9000 then .ok (i / j) else .no
theorem rf_fdiv {i j : Int} : RefR (fdivD (eI i) (eI j)) (fdivT i j) eI := by
  unfold fdivT
  exact ref_ite (e := eI) rfl
theorem rf_fdivL {i j : Int} (h : decide (0 < j ∧ j.natAbs.log2 < 9000) = true := by decide +kernel) : RefR (fdivD (eI i) (eI j)) (.ok (i / j)) eI := if_pos (of_decide_eq_true h)
@[irreducible] def modT (i j : Int) : R Int := if 0 < j then .ok (i % j) else .no
theorem rf_mod {i j : Int} : RefR (modD (eI i) (eI j)) (modT i j) eI := by
  unfold modT
  exact ref_ite (e := eI) rfl
theorem rf_modL {i j : Int} (h : decide (0 < j) = true := by decide +kernel) : RefR (modD (eI i) (eI j)) (.ok (i % j)) eI := if_pos (of_decide_eq_true h)
@[irreducible] def shlT (i j : Int) : R Int := if 0 ≤ j ∧ j ≤ 1000000 ∧ i.natAbs < 2 ^ 64 then .ok (i * 2 ^ j.toNat) else .no
theorem rf_shl {i j : Int} : RefR (shlD (eI i) (eI j)) (shlT i j) eI := by
  unfold shlT
  have E : shlD (.int i) (.int j) = if 0 ≤ j ∧ j ≤ 1000000 ∧ i.natAbs < 2 ^ 64 then .ok (.int (i * 2 ^ j.toNat)) else .no := by simp only [shlD]
  rw [E]
  exact ref_ite (e := eI) rfl
@[irreducible] def shrT (i j : Int) : R Int := if 0 ≤ j then .ok (i / 2 ^ j.toNat) else .no
theorem rf_abs {i : Int} : RefR (absD [eI i]) (.ok (i.natAbs : Int)) eI := s_absD i
theorem rf_intb {b : Bool} : RefR (intD [eB b]) (.ok (cond b 1 0)) eI := s_intD_b b
/-! ### lists -/
@[irreducible] def catT (l m : List α) : R (List α) := if l.length + m.length ≤ 16777216 then .ok (l ++ m) else .no
theorem ref_cat {l m : List α} {k : List D → D} (h : k ((l ++ m).map e) = k (l.map e ++ m.map e)) : RefR (if (l.map e).length + (m.map e).length ≤ sizeLine then .ok (k (l.map e ++ m.map e)) else .no) (catT l m) (fun x => k (x.map e)) := by
  unfold catT
  rw [List.length_map, List.length_map, sz_line]
  exact ref_ite (e := fun x : List α => k (x.map e)) h.symm
theorem rf_cat {l m : List α} : RefR (catD (eL e l) (eL e m)) (catT l m) (eL e) := ref_cat (k := D.lst) (by rw [List.map_append])
theorem rf_addL {l m : List α} : RefR (addD (eL e l) (eL e m)) (catT l m) (eL e) := ref_cat (k := D.lst) (by rw [List.map_append])
@[irreducible] def rep1 (a : α) (k : Int) : R (List α) := if -(2 ^ 63) ≤ k ∧ k.toNat ≤ 16777216 then .ok (List.replicate k.toNat a) else .no
theorem flat_one (a : α) : ∀ n : Nat, (List.replicate n [a]).flatten = List.replicate n a
  | 0 => rfl
  | n + 1 => by
    rw [List.replicate_succ, List.flatten_cons, flat_one a n]
    rfl
theorem rf_rep1 {a : α} {k : Int} : RefR (repD (eL e [a]) (eI k)) (rep1 a k) (eL e) := by
  show RefR (if -(2 ^ 63) ≤ k ∧ k < 2 ^ 63 ∧ 1 * k.toNat ≤ sizeLine then .ok (.lst (List.replicate k.toNat [e a]).flatten) else .no) _ _
  rw [sz_line, Nat.one_mul, flat_one]
  unfold rep1
  by_cases h : -(2 ^ 63) ≤ k ∧ k.toNat ≤ 16777216
  · rw [if_pos h, if_pos ⟨h.1, by omega, h.2⟩]
    show R.ok (D.lst _) = .ok (D.lst _)
    rw [List.map_replicate]
  · rw [if_neg h]; trivial
@[irreducible] def ixT (l : List α) (i : Int) : R α := match atI l i with
  | some d => .ok d
  | none => .no
theorem ref_at {l : List α} {i : Int} : RefR (match atI (l.map e) i with | some d => .ok d | none => .no) (ixT l i) e := by
  rw [atI_map]
  unfold ixT
  cases atI l i with
  | none => trivial
  | some a => exact rfl
theorem rf_ixL {l : List α} {i : Int} : RefR (ixD (eL e l) (eI i)) (ixT l i) e := ref_at
theorem rf_ixR {l : List Int} {i : Int} : RefR (ixD (eR l) (eI i)) (ixT l i) eI := by
  show RefR (match atI l i with | some d => .ok (.int d) | none => .no) _ _
  unfold ixT
  cases atI l i with
  | none => trivial
  | some a => exact rfl
theorem rf_ixP0 {p : α × β} : RefR (ixD (eP e1 e2 p) (eI 0)) (.ok p.1) e1 := rfl
theorem rf_ixP1 {p : α × β} : RefR (ixD (eP e1 e2 p) (eI 1)) (.ok p.2) e2 := rfl
theorem rf_lenL {l : List α} : RefR (lenD [eL e l]) (.ok (l.length : Int)) eI := by
  show R.ok (D.int ((l.map e).length : Nat)) = _
  rw [List.length_map]
theorem rf_lenT {l : List α} : RefR (lenD [eT e l]) (.ok (l.length : Int)) eI := by
  show R.ok (D.int ((l.map e).length : Nat)) = _
  rw [List.length_map]
theorem rf_lenR {l : List Int} : RefR (lenD [eR l]) (.ok (l.length : Int)) eI := rfl
theorem rf_seqL {l : List α} : RefR (seqD (eL e l)) (.ok l) (eL e) := rfl
theorem rf_listL {l : List α} : RefR (listD [eL e l]) (.ok l) (eL e) := rfl
theorem rf_sumR {l : List Int} : RefR (sumD [eR l]) (.ok l.sum) eI := rfl
/-! so many numbers -/
def rangeI (lo : Int) (n : Nat) : List Int := (List.range n).map fun k : Nat => lo + (k : Int)
theorem rangeL_I (lo : Int) (n : Nat) : rangeL lo n = (rangeI lo n).map D.int := by
  unfold rangeI
  rw [rangeL_map, List.map_map]
  rfl
@[irreducible] def rangeT (n : Int) : R (List Int) := if -(2 ^ 62) ≤ n ∧ n < 2 ^ 62 then .ok (rangeI 0 n.toNat) else .no
theorem rf_range {n : Int} : RefR (rangeD [eI n]) (rangeT n) (eL eI) := by
  unfold rangeT
  have E : rangeD [.int n] = if -(2 ^ 62) ≤ n ∧ n < 2 ^ 62 then .ok (.lst (rangeL 0 n.toNat)) else .no := by simp only [rangeD]
  rw [E]
  refine ref_ite (e := eL eI) ?_
  show D.lst _ = D.lst _
  rw [rangeL_I]
@[irreducible] def range2T (lo n : Int) : R (List Int) := if -(2 ^ 62) ≤ lo ∧ lo < 2 ^ 62 ∧ -(2 ^ 62) ≤ n ∧ n < 2 ^ 62 then .ok (rangeI lo (n - lo).toNat) else .no
theorem rf_range2 {lo n : Int} : RefR (rangeD [eI lo, eI n]) (range2T lo n) (eL eI) := by
  unfold range2T
  have E : rangeD [.int lo, .int n] = if -(2 ^ 62) ≤ lo ∧ lo < 2 ^ 62 ∧ -(2 ^ 62) ≤ n ∧ n < 2 ^ 62 then .ok (.lst (rangeL lo (n - lo).toNat)) else .no := by simp only [rangeD]
  rw [E]
  refine ref_ite (e := eL eI) ?_
  show D.lst _ = D.lst _
  rw [rangeL_I]
@[irreducible] def rgT (n : Int) : R (List Int) := if 0 ≤ n ∧ n ≤ 16777216 then .ok (rangeI 0 n.toNat) else .no
@[irreducible] def rg2T (i j : Int) : R (List Int) := if (0 ≤ i ∧ i ≤ 16777216) ∧ 0 ≤ j ∧ j ≤ 16777216 then .ok (rangeI i (j - i).toNat) else .no
theorem rf_rg2 {i j : Int} : RefR (rg2D (eI i) (eI j)) (rg2T i j) (eL eI) := by
  unfold rg2T
  show RefR (if (0 ≤ i ∧ i ≤ 16777216) ∧ 0 ≤ j ∧ j ≤ 16777216 then .ok (.lst (rangeL i (j - i).toNat)) else .no) _ _
  refine ref_ite (e := eL eI) ?_
  show D.lst _ = D.lst _
  rw [rangeL_I]
/-! slices -/
/-! displays -/
theorem rf_P {a : α} {b : β} : RefR (tupD [e1 a, e2 b]) (.ok (a, b)) (eP e1 e2) := rfl
theorem rf_P3 {a : α} {b : β} {c : γ} : RefR (tupD [e1 a, e2 b, e3 c]) (.ok (a, b, c)) (eP3 e1 e2 e3) := rfl
theorem rf_lst {ds : List D} {l : List α} (h : ds = l.map e := by rfl) : RefR (lstD ds) (.ok l) (eL e) := by rw [h]; exact rfl
/-! ### == -/
structure PlE (k : Nat) (e : α → D) : Prop where
  py : ∀ a, ∃ p, py (e a) = some p ∧ PyData.canLay0 p = true ∧ p.depth ≤ k
  eqv : ∀ a b p q, BW.py (e a) = some p → BW.py (e b) = some q → (PyData.eqv p q = true ↔ a = b)
theorem eqD_eqG (a b : D) : eqD a b = eqG a b := by
  unfold eqD
  split
  · rename_i i j
    have : eqG (.int i) (.int j) = .ok (.bl (i == j)) := rfl
    rw [this, Bool.beq_eq_decide_eq]
  · rfl
theorem rf_eq [DecidableEq α] {k : Nat} (p : PlE k e) {a b : α} (hk : decide (k ≤ 60) = true := by decide +kernel) : RefR (eqD (e a) (e b)) (.ok (decide (a = b))) eB := by
  obtain ⟨x, h1, h2, h3⟩ := p.py a
  obtain ⟨y, f1, f2, f3⟩ := p.py b
  have hk := of_decide_eq_true hk
  show eqD (e a) (e b) = .ok (.bl (decide (a = b)))
  rw [eqD_eqG]
  unfold eqG
  rw [h1, f1]
  show (if (SeqAt.shaped x && SeqAt.shaped y) = true then R.ok (D.bl (PyData.eqv x y)) else .no) = _
  rw [if_pos]
  · congr 2
    have := p.eqv a b x y h1 f1
    by_cases h : a = b
    · rw [this.mpr h, decide_eq_true h]
    · rw [decide_eq_false h]
      cases hx : PyData.eqv x y with
      | true => exact absurd (this.mp hx) h
      | false => rfl
  · unfold SeqAt.shaped
    rw [h2, f2, decide_eq_true (by omega), decide_eq_true (by omega)]
    rfl
theorem rf_ne [DecidableEq α] {k : Nat} (p : PlE k e) {a b : α} (hk : decide (k ≤ 60) = true := by decide +kernel) : RefR (neD (e a) (e b)) (.ok (!decide (a = b))) eB := neD_of (rf_eq p hk)
theorem plI : PlE 0 eI := ⟨fun i => ⟨.int i, rfl, by first | rfl | simp [PyData.canLay0], by simp [PyData.depth]⟩, fun a b p q h1 h2 => by cases h1; cases h2; simp [PyData.eqv]⟩
theorem plB : PlE 0 eB := ⟨fun i => ⟨.bool i, rfl, by first | rfl | simp [PyData.canLay0], by simp [PyData.depth]⟩, fun a b p q h1 h2 => by cases h1; cases h2; simp [PyData.eqv]⟩
theorem pl_all {k : Nat} (p : PlE k e) : ∀ l : List α, ∃ ps, pyA (l.map e) = some ps ∧ PyData.canLayAll0 ps = true ∧ PyData.depthAll ps ≤ k
  | [] => ⟨[], rfl, by simp [PyData.canLayAll0], by simp [PyData.depthAll]⟩
  | a :: l => by
    obtain ⟨x, h1, h2, h3⟩ := p.py a
    obtain ⟨ps, f1, f2, f3⟩ := pl_all p l
    refine ⟨x :: ps, ?_, by simp [PyData.canLayAll0, h2, f2], by simp only [PyData.depthAll]; omega⟩
    show ((py (e a)).bind fun x => (pyA (l.map e)).map fun xs => x :: xs) = _
    rw [h1, f1]
    rfl
theorem pl_eqv {k : Nat} (p : PlE k e) : ∀ (l m : List α) (ps qs : List PyData), pyA (l.map e) = some ps → pyA (m.map e) = some qs → (PyData.eqvAll ps qs = true ↔ l = m)
  | [], [], ps, qs, h1, h2 => by cases h1; cases h2; simp [PyData.eqvAll]
  | [], b :: m, ps, qs, h1, h2 => by
    cases h1
    obtain ⟨y, g1, _⟩ := p.py b
    obtain ⟨ys, g2, _⟩ := pl_all p m
    have h2 : ((py (e b)).bind fun x => (pyA (m.map e)).map fun xs => x :: xs) = some qs := h2
    rw [g1, g2] at h2
    cases h2
    simp [PyData.eqvAll]
  | a :: l, [], ps, qs, h1, h2 => by
    cases h2
    obtain ⟨y, g1, _⟩ := p.py a
    obtain ⟨ys, g2, _⟩ := pl_all p l
    have h1 : ((py (e a)).bind fun x => (pyA (l.map e)).map fun xs => x :: xs) = some ps := h1
    rw [g1, g2] at h1
    cases h1
    simp [PyData.eqvAll]
  | a :: l, b :: m, ps, qs, h1, h2 => by
    obtain ⟨x, f1, _⟩ := p.py a
    obtain ⟨xs, f2, _⟩ := pl_all p l
    obtain ⟨y, g1, _⟩ := p.py b
    obtain ⟨ys, g2, _⟩ := pl_all p m
    have h1 : ((py (e a)).bind fun x => (pyA (l.map e)).map fun xs => x :: xs) = some ps := h1
    have h2 : ((py (e b)).bind fun x => (pyA (m.map e)).map fun xs => x :: xs) = some qs := h2
    rw [f1, f2] at h1
    rw [g1, g2] at h2
    cases h1; cases h2
    have k1 := p.eqv a b x y f1 g1
    have k2 := pl_eqv p l m xs ys f2 g2
    simp only [PyData.eqvAll, Bool.and_eq_true, k1, k2, List.cons.injEq]
theorem plL {k : Nat} (p : PlE k e) : PlE (k + 1) (eL e) := ⟨fun l => by
    obtain ⟨ps, h1, h2, h3⟩ := pl_all p l
    exact ⟨.list ps, by show (pyA (l.map e)).map PyData.list = _; rw [h1]; rfl, by simpa [PyData.canLay0] using h2, by simp only [PyData.depth]; omega⟩, fun l m x y h1 h2 => by
    obtain ⟨ps, f1, _⟩ := pl_all p l
    obtain ⟨qs, g1, _⟩ := pl_all p m
    have h1 : (pyA (l.map e)).map PyData.list = some x := h1
    have h2 : (pyA (m.map e)).map PyData.list = some y := h2
    rw [f1] at h1
    rw [g1] at h2
    cases h1; cases h2
    simpa only [PyData.eqv] using pl_eqv p l m ps qs f1 g1⟩
/-! ### in -/
theorem rf_inL {x : Int} {l : List Int} : RefR (inD (eI x) (eL eI l)) (.ok (decide (x ∈ l))) eB := inD_ints x l
theorem rf_nin {a b : D} {k : Bool} (h : RefR (inD a b) (.ok k) eB) : RefR (ninD a b) (.ok (!k)) eB := by
  have h : inD a b = .ok (.bl k) := h
  show (inD a b).bind notD = _
  rw [h]; rfl
/-! ### is -/
/-- what an optional value is -/
def unO : Option α → R α
  | some a => .ok a
  | none => .no
/-! ### webs -/
@[irreducible] def mkW (many : Int) (ts : List (Int × Int)) : R W := if badMany many ts then .er 4 [] else if ts.any (badTie many) then .er 3 [] else .ok ⟨many, ts⟩
theorem rf_web {d : D} {many : Int} {ts : List (Int × Int)} (h : tiesD d = some ts) : RefR (webD [eI many, d]) (mkW many ts) eW := by
  have E : webD [eI many, d] = if badMany many ts then R.er 4 [] else if ts.any (badTie many) then R.er 3 [] else .ok (webO many ts) := by
    show (match tiesD d with
    | some ts => if badMany many ts then R.er 4 [] else if ts.any (badTie many) then R.er 3 [] else .ok (webO many ts)
    | none => .no) = _
    rw [h]
  rw [E]
  unfold mkW
  split
  · exact rfl
  · split
    · exact rfl
    · exact rfl
theorem rf_webL {many : Int} {ts : List (Int × Int)} : RefR (webD [eI many, eL (eP eI eI) ts]) (mkW many ts) eW := rf_web (pairsD_map ts)
theorem rf_ties {w : W} : RefR (atD 0 "ties" (eW w)) (.ok w.ties) (eT (eP eI eI)) := rfl
/-! ### data without lists -/
def LF (e : α → D) : Prop := ∀ a, lf (e a) = true
theorem lfW : LF eW := fun w => by
  show (true && (lf (.tup (w.ties.map encP)) && true)) = true
  have := lf_encP w.ties
  show (true && (lfA (w.ties.map encP) && true)) = true
  rw [this]; rfl
theorem ev_lfD {c : Ce} {f : F} {r : R α} (h : EvE c f r e) (k : LF e) : EvE c (f1 lfD f) r e := ev_tst h fun x => by unfold lfD; rw [if_pos (k x)]
/-! ### isinstance -/
theorem rf_is {T : String} {b : Bool} {x : α} (h : ∀ a, isiS T (e a) = .ok (.bl b)) : RefR (isiS T (e x)) (.ok b) eB := h x
def isoTb (tb : List (Nat × Bool)) (k : Nat) : R Bool := if 1 < k then (match tb.lookup k with
  | some b => .ok b
  | none => .no) else .no
theorem rf_isoX {tb : List (Nat × Bool)} {k : Nat} : RefR (isoD tb (eX k)) (isoTb tb k) eB := by
  show RefR (if 1 < k then (match tb.lookup k with
    | some b => .ok (.bl b)
    | none => .no) else .no) _ _
  unfold isoTb
  by_cases h : 1 < k
  · rw [if_pos h, if_pos h]
    cases tb.lookup k with
    | none => trivial
    | some b => exact rfl
  · rw [if_neg h, if_neg h]; trivial
/-! ### count -/
theorem allSc_bl : ∀ l : List Bool, allSc (l.map D.bl) = true
  | [] => rfl
  | b :: l => by show (true && allSc (l.map D.bl)) = true; rw [allSc_bl l]; rfl
theorem rf_cntB {l : List Bool} {x : Bool} : RefR (cntD (eL eB l) (eB x)) (.ok (l.count x : Int)) eI := by
  show RefR (if (D.bl x).sc.isSome && allSc (l.map D.bl) then .ok (.int ((l.map D.bl).countP fun y => eqS y (.bl x) : Nat)) else .no) _ _
  rw [allSc_bl]
  show R.ok (D.int ((l.map D.bl).countP fun y => eqS y (.bl x) : Nat)) = _
  rw [List.countP_map]
  congr 3
end
end BW
namespace BW
section
variable {Λ Γ Δ ρ α β τ : Type} {c ck : Ce} {g : G} {f : F} {ke : En → Prop} {e : ρ → D}
theorem ev_w {f : F} {r : R τ} {e : τ → D} (b : List Bool) (h : EvE ck f r e) (hc : ck = msk b c := by rfl) : EvE c f r e := fun env H => h env (hc ▸ H.msk b)
end
end BW
namespace BW
theorem RefR.get {τ : Type} {x : R D} {r : R τ} {e : τ → D} (h : RefR x r e) {a : τ} (k : r = .ok a) : x = .ok (e a) := by
  subst k
  exact h
end BW
/-! BTy4: reckoning with typed functions. -/
namespace BW
open PySem PySem.Spec PyProof.Rows L2
section
variable {Λ Γ Δ ρ α β τ : Type}
/-! ### values -/
theorem ixT_some {l : List α} {i : Nat} {a : α} (h : l[i]? = some a) : ixT l (i : Int) = .ok a := by
  unfold ixT
  rw [atI_nat h]
theorem ixT_nat {l : List α} {i : Nat} (h : i < l.length) : ixT l (i : Int) = .ok l[i] := ixT_some (List.getElem?_eq_getElem h)
@[simp] theorem appT_ok {l : List α} {x : α} (h : l.length < 16777216) : appT l x = .ok (l ++ [x]) := by unfold appT; rw [if_pos h]
@[simp] theorem extT_ok {l m : List α} (h : l.length + m.length ≤ 16777216) : extT l m = .ok (l ++ m) := by unfold extT; rw [if_pos h]
@[simp] theorem catT_ok {l m : List α} (h : l.length + m.length ≤ 16777216) : catT l m = .ok (l ++ m) := by unfold catT; rw [if_pos h]
theorem rep1_ok {a : α} {k : Nat} (h : k ≤ 16777216) : rep1 a (k : Int) = .ok (List.replicate k a) := by
  unfold rep1
  rw [if_pos ⟨by omega, by omega⟩, Int.toNat_natCast]
@[simp] theorem fdivT_ok {i j : Int} (h : 0 < j) (h2 : j ≤ 10 ^ 60) : fdivT i j = .ok (i / j) := by
  unfold fdivT
  rw [if_pos ⟨h, log_lit h h2⟩]
@[simp] theorem modT_ok {i j : Int} (h : 0 < j) : modT i j = .ok (i % j) := by unfold modT; rw [if_pos h]
@[simp] theorem shrT_ok {i j : Int} (h : 0 ≤ j) : shrT i j = .ok (i / 2 ^ j.toNat) := by unfold shrT; rw [if_pos h]
@[simp] theorem mulT_l {i j : Int} (h : smallI i = true) : mulT i j = .ok (i * j) := by unfold mulT; rw [h]; rfl
@[simp] theorem mulT_r {i j : Int} (h : smallI j = true) : mulT i j = .ok (i * j) := by unfold mulT; rw [h]; simp
theorem rangeT_nat {n : Nat} (h : n ≤ 16777216) : rangeT (n : Int) = .ok (rangeI 0 n) := by
  unfold rangeT
  rw [if_pos ⟨by omega, by omega⟩, Int.toNat_natCast]
@[simp] theorem rangeT_ok {n : Int} (h0 : 0 ≤ n) (h : n ≤ 16777216) : rangeT n = .ok (rangeI 0 n.toNat) := by
  obtain ⟨j, rfl⟩ := Int.eq_ofNat_of_zero_le h0
  rw [rangeT_nat (by omega), Int.toNat_natCast]
@[simp] theorem range2T_ok {i n : Int} (a0 : 0 ≤ i) (a : i ≤ 16777216) (h0 : 0 ≤ n) (h : n ≤ 16777216) : range2T i n = .ok (rangeI i (n - i).toNat) := by
  unfold range2T
  rw [if_pos ⟨by omega, by omega, by omega, by omega⟩]
@[simp] theorem rgT_ok {n : Int} (h0 : 0 ≤ n) (h : n ≤ 16777216) : rgT n = .ok (rangeI 0 n.toNat) := by unfold rgT; rw [if_pos ⟨h0, h⟩]
@[simp] theorem rg2T_ok {i n : Int} (a0 : 0 ≤ i) (a : i ≤ 16777216) (h0 : 0 ≤ n) (h : n ≤ 16777216) : rg2T i n = .ok (rangeI i (n - i).toNat) := by unfold rg2T; rw [if_pos ⟨⟨a0, a⟩, h0, h⟩]
@[simp] theorem rangeI_len (lo : Int) (n : Nat) : (rangeI lo n).length = n := by unfold rangeI; simp
theorem rangeI_get {lo : Int} {n i : Nat} (h : i < n) : (rangeI lo n)[i]? = some (lo + (i : Int)) := by
  unfold rangeI
  rw [List.getElem?_map, List.getElem?_range h]
  rfl
theorem rangeI_0 (n : Nat) : rangeI 0 n = (List.range n).map fun k : Nat => (k : Int) := by
  unfold rangeI
  exact List.map_congr_left fun k _ => by rw [Int.zero_add]
theorem mem_rangeI {lo x : Int} {n : Nat} : x ∈ rangeI lo n ↔ lo ≤ x ∧ x < lo + (n : Int) := by
  unfold rangeI
  rw [List.mem_map]
  constructor
  · rintro ⟨k, hk, rfl⟩
    have := List.mem_range.mp hk
    omega
  · intro h
    exact ⟨(x - lo).toNat, List.mem_range.mpr (by omega), by omega⟩
theorem mkW_ok {m : Int} {ts : List (Int × Int)} (h0 : 1 ≤ m) (hm : m ≤ 20) (hl : ts.length ≤ 40) (hi : ∀ t ∈ ts, 0 ≤ t.1 ∧ t.1 < m ∧ 0 ≤ t.2 ∧ t.2 < m) : mkW m ts = .ok ⟨m, ts⟩ := by
  unfold mkW
  have e1 : badMany m ts = false := by unfold badMany; simp; omega
  have e2 : ts.any (badTie m) = false := by
    refine List.any_eq_false.mpr fun t ht => ?_
    obtain ⟨h1, h2, h3, h4⟩ := hi t ht
    unfold badTie badEnd
    simp
    omega
  rw [e1, e2]
  rfl
@[simp] theorem unO_some (a : α) : unO (some a) = .ok a := id rfl
@[simp] theorem cutL_take (l : List α) {k : Int} (h : 0 ≤ k) : cutL l none (some k) = l.take k.toNat := cut_take l h
@[simp] theorem cutL_drop (l : List α) {k : Int} (h : 0 ≤ k) : cutL l (some k) none = l.drop k.toNat := cut_drop l h
/-! ### comprehensions -/
theorem fLcT_fm {tst : α → R Bool} {y : α → R β} {l : List α} (p : α → Bool) (f : α → β) (hl : l.length ≤ 16777216) (h1 : ∀ a ∈ l, tst a = .ok (p a)) (h2 : ∀ a ∈ l, p a = true → y a = .ok (f a)) : fLcT tst y l = .ok ((l.filter p).map f) := by
  unfold fLcT
  rw [if_pos hl]
  have key : ∀ m : List α, (∀ a ∈ m, a ∈ l) → lcT tst y m = .ok ((m.filter p).map f) := by
    intro m
    induction m with
    | nil => intro _; rfl
    | cons a m ih =>
      intro hm
      have ih := ih fun x hx => hm x (List.mem_cons_of_mem _ hx)
      have ha := hm a List.mem_cons_self
      unfold lcT
      rw [h1 a ha, ih]
      cases hp : p a with
      | true =>
        rw [h2 a ha hp, List.filter_cons_of_pos hp]
        rfl
      | false =>
        rw [List.filter_cons_of_neg (by rw [hp]; decide)]
        rfl
  rw [key l fun _ h => h]
  rfl
theorem fLcT_map {y : α → R β} {l : List α} (f : α → β) (hl : l.length ≤ 16777216) (h2 : ∀ a ∈ l, y a = .ok (f a)) : fLcT (fun _ => .ok true) y l = .ok (l.map f) := by
  rw [fLcT_fm (fun _ => true) f hl (fun _ _ => rfl) fun a ha _ => h2 a ha, List.filter_eq_self.mpr fun _ _ => rfl]
/-! ### loops -/
def TR.lp (t : TR Γ Γ ρ) (k : Γ → TR Λ Γ ρ) : TR Λ Γ ρ := match t with
  | .nx g => k g
  | .ct g => k g
  | .bk g => .nx g
  | .rt d => .rt d
  | .er c p => .er c p
  | .no => .no
@[simp] theorem lp_nx (g : Γ) (k : Γ → TR Λ Γ ρ) : TR.lp (.nx g) k = k g := id rfl
@[simp] theorem lp_ct (g : Γ) (k : Γ → TR Λ Γ ρ) : TR.lp (.ct g) k = k g := id rfl
@[simp] theorem lp_bk (g : Γ) (k : Γ → TR Λ Γ ρ) : TR.lp (.bk g) k = .nx g := id rfl
@[simp] theorem lp_rt (g : ρ) (k : Γ → TR Λ Γ ρ) : TR.lp (.rt g) k = .rt g := id rfl
@[simp] theorem lp_er (c p) (k : Γ → TR Λ Γ ρ) : TR.lp (.er c p) k = .er c p := id rfl
@[simp] theorem forT_nil (b : α → Γ → TR Γ Γ ρ) (g : Γ) : (forT b [] g : TR Λ Γ ρ) = .nx g := id rfl
theorem forT_cons (b : α → Γ → TR Γ Γ ρ) (a : α) (l : List α) (g : Γ) : (forT b (a :: l) g : TR Λ Γ ρ) = (b a g).lp (forT b l) := by
  show (match b a g with
    | .nx g => forT b l g
    | .ct g => forT b l g
    | .bk g => .nx g
    | .rt d => .rt d
    | .er c p => .er c p
    | .no => .no : TR Λ Γ ρ) = _
  cases b a g <;> rfl
/-- a for, by what holds between turns and where it is left -/
theorem forT_rule {b : α → Γ → TR Γ Γ ρ} {l : List α} {g0 : Γ} (Iv : Nat → Γ → Prop) (Out : TR Λ Γ ρ → Prop) (h : ∀ i a g, l[i]? = some a → Iv i g → (∃ g', (b a g = .nx g' ∨ b a g = .ct g') ∧ Iv (i + 1) g') ∨ (∃ g', b a g = .bk g' ∧ Out (.nx g')) ∨ (∃ d, b a g = .rt d ∧ Out (.rt d)) ∨ ∃ c p, b a g = .er c p ∧ Out (.er c p)) (hd : ∀ g, Iv l.length g → Out (.nx g)) (h0 : Iv 0 g0) : Out (forT b l g0) := by
  have key : ∀ (m : List α) (i : Nat) (g : Γ), l.drop i = m → i ≤ l.length → Iv i g → Out (forT b m g) := by
    intro m
    induction m with
    | nil =>
      intro i g hl hi hv
      have : i = l.length := by
        have := congrArg List.length hl
        rw [List.length_drop, List.length_nil] at this
        omega
      subst this
      exact hd g hv
    | cons a m ih =>
      intro i g hl hi hv
      have hlt : i < l.length := by
        have := congrArg List.length hl
        rw [List.length_drop, List.length_cons] at this
        omega
      have ha : l[i]? = some a := by
        have := congrArg (fun z => z[0]?) hl
        simpa [List.getElem?_drop] using this
      have hl2 : l.drop (i + 1) = m := by
        have := congrArg (List.drop 1) hl
        simpa [List.drop_drop, Nat.add_comm] using this
      rw [forT_cons]
      rcases h i a g ha hv with ⟨g', h1 | h1, h2⟩ | ⟨g', h1, h2⟩ | ⟨d, h1, h2⟩ | ⟨c, p, h1, h2⟩
      · rw [h1]; exact ih (i + 1) g' hl2 hlt h2
      · rw [h1]; exact ih (i + 1) g' hl2 hlt h2
      · rw [h1]; exact h2
      · rw [h1]; exact h2
      · rw [h1]; exact h2
  exact key l 0 g0 rfl (Nat.zero_le _) h0
/-- .. that runs through -/
theorem forT_inv {b : α → Γ → TR Γ Γ ρ} {l : List α} {g0 : Γ} (Iv : Nat → Γ → Prop) (h : ∀ i a g, l[i]? = some a → Iv i g → ∃ g', (b a g = .nx g' ∨ b a g = .ct g') ∧ Iv (i + 1) g') (h0 : Iv 0 g0) : ∃ g, (forT b l g0 : TR Λ Γ ρ) = .nx g ∧ Iv l.length g :=
  forT_rule (Λ := Λ) Iv (fun r => ∃ g, r = .nx g ∧ Iv l.length g) (fun i a g ha hi => .inl (h i a g ha hi)) (fun g hg => ⟨g, rfl, hg⟩) h0
/-- .. whose state is known turn by turn -/
theorem forT_st {b : α → Γ → TR Γ Γ ρ} {l : List α} (f : Nat → Γ) (h : ∀ i a, l[i]? = some a → b a (f i) = .nx (f (i + 1)) ∨ b a (f i) = .ct (f (i + 1))) : (forT b l (f 0) : TR Λ Γ ρ) = .nx (f l.length) := by
  obtain ⟨g, h1, h2⟩ := forT_inv (Λ := Λ) (b := b) (l := l) (g0 := f 0) (fun i g => g = f i) (fun i a g ha hg => ⟨f (i + 1), by subst hg; exact h i a ha, rfl⟩) rfl
  rw [h1, h2]
theorem forT_rg {b : Int → Γ → TR Γ Γ ρ} {n : Nat} (f : Nat → Γ) (h : ∀ i : Nat, i < n → b (i : Int) (f i) = .nx (f (i + 1)) ∨ b (i : Int) (f i) = .ct (f (i + 1))) : (forT b (rangeI 0 n) (f 0) : TR Λ Γ ρ) = .nx (f n) := by
  have k := forT_st (Λ := Λ) (b := b) (l := rangeI 0 n) f fun i a ha => by
    have hl : i < n := by
      have := (List.getElem?_eq_some_iff.mp ha).1
      rwa [rangeI_len] at this
    rw [rangeI_get hl] at ha
    cases ha
    rw [Int.zero_add]
    exact h i hl
  rwa [rangeI_len] at k
theorem forT_rgI {b : Int → Γ → TR Γ Γ ρ} {n : Nat} {g0 : Γ} (Iv : Nat → Γ → Prop) (h : ∀ (i : Nat) g, i < n → Iv i g → ∃ g', (b (i : Int) g = .nx g' ∨ b (i : Int) g = .ct g') ∧ Iv (i + 1) g') (h0 : Iv 0 g0) : ∃ g, (forT b (rangeI 0 n) g0 : TR Λ Γ ρ) = .nx g ∧ Iv n g := by
  have k := forT_inv (Λ := Λ) (b := b) (l := rangeI 0 n) Iv (fun i a g ha hg => by
    have hl : i < n := by
      have := (List.getElem?_eq_some_iff.mp ha).1
      rwa [rangeI_len] at this
    rw [rangeI_get hl] at ha
    cases ha
    rw [Int.zero_add]
    exact h i g hl hg) h0
  rwa [rangeI_len] at k
/-- .. that seeks -/
theorem forT_seek {b : α → Γ → TR Γ Γ ρ} {l : List α} {g0 : Γ} (p : α → Bool) {d : ρ} (h : ∀ a ∈ l, (p a = true ∧ b a g0 = .rt d) ∨ (p a = false ∧ (b a g0 = .nx g0 ∨ b a g0 = .ct g0))) : (forT b l g0 : TR Λ Γ ρ) = cond (l.any p) (.rt d) (.nx g0) := by
  induction l with
  | nil => rfl
  | cons a l ih =>
    rw [forT_cons, List.any_cons]
    have k := ih fun x hx => h x (List.mem_cons_of_mem _ hx)
    rcases h a List.mem_cons_self with ⟨h1, h2⟩ | ⟨h1, h2⟩
    · rw [h1, h2]; rfl
    · rw [h1, Bool.false_or, ← k]
      rcases h2 with h2 | h2 <;> rw [h2] <;> rfl
/-- a while, by what holds between turns and a measure that falls -/
theorem whT_rule {t : Γ → R Bool} {b : Γ → TR Γ Γ ρ} (Iv : Γ → Prop) (ms : Γ → Nat) (Out : TR Λ Γ ρ → Prop) (h : ∀ g, Iv g → (t g = .ok false ∧ Out (.nx g)) ∨ (t g = .ok true ∧ ((∃ g', (b g = .nx g' ∨ b g = .ct g') ∧ Iv g' ∧ ms g' < ms g) ∨ (∃ g', b g = .bk g' ∧ Out (.nx g')) ∨ (∃ d, b g = .rt d ∧ Out (.rt d)) ∨ ∃ c p, b g = .er c p ∧ Out (.er c p)))) : ∀ (n : Nat) (g : Γ), Iv g → ms g < n → Out (whT t b n g)
  | 0, _, _, hn => absurd hn (Nat.not_lt_zero _)
  | n + 1, g, hv, hn => by
    have E : (whT t b (n + 1) g : TR Λ Γ ρ) = TR.ob (t g) fun k => cond k ((b g).lp (whT t b n)) (.nx g) := by
      have : ∀ k, (cond k (match b g with
        | .nx g => whT t b n g
        | .ct g => whT t b n g
        | .bk g => .nx g
        | .rt d => .rt d
        | .er c p => .er c p
        | .no => .no : TR Λ Γ ρ) (.nx g)) = cond k ((b g).lp (whT t b n)) (.nx g) := by
        intro k
        cases k
        · rfl
        · show (match b g with
            | .nx g => whT t b n g
            | .ct g => whT t b n g
            | .bk g => .nx g
            | .rt d => .rt d
            | .er c p => .er c p
            | .no => .no : TR Λ Γ ρ) = (b g).lp (whT t b n)
          cases b g <;> rfl
      show (TR.ob (t g) fun k => _) = _
      exact congrArg (TR.ob (t g)) (funext this)
    rw [E]
    rcases h g hv with ⟨h1, h2⟩ | ⟨h1, h2⟩
    · rw [h1]; exact h2
    · rw [h1, ob_ok]
      show Out ((b g).lp (whT t b n))
      rcases h2 with ⟨g', h3 | h3, h4, h5⟩ | ⟨g', h3, h4⟩ | ⟨d, h3, h4⟩ | ⟨c, p, h3, h4⟩
      · rw [h3]; exact whT_rule Iv ms Out h n g' h4 (by omega)
      · rw [h3]; exact whT_rule Iv ms Out h n g' h4 (by omega)
      · rw [h3]; exact h4
      · rw [h3]; exact h4
      · rw [h3]; exact h4
theorem whT_inv {t : Γ → R Bool} {b : Γ → TR Γ Γ ρ} {n : Nat} {g0 : Γ} (Iv : Γ → Prop) (ms : Γ → Nat) (h : ∀ g, Iv g → t g = .ok false ∨ (t g = .ok true ∧ ∃ g', (b g = .nx g' ∨ b g = .ct g') ∧ Iv g' ∧ ms g' < ms g)) (h0 : Iv g0) (hn : ms g0 < n) : ∃ g, (whT t b n g0 : TR Λ Γ ρ) = .nx g ∧ Iv g ∧ t g = .ok false :=
  whT_rule (Λ := Λ) Iv ms (fun r => ∃ g, r = .nx g ∧ Iv g ∧ t g = .ok false) (fun g hg => by
    rcases h g hg with h1 | ⟨h1, h2⟩
    · exact .inl ⟨h1, g, rfl, hg, h1⟩
    · exact .inr ⟨h1, .inl h2⟩) n g0 h0 hn
end
end BW
/-! BTy5: more operations, typed. -/
namespace BW
open PySem PySem.Spec PyProof.Rows L2
section
variable {α β γ τ : Type} {e : α → D} {e1 : α → D} {e2 : β → D}
end
end BW
/-! BTy6: counts of pairs, a script turned about, ranges with a step. -/
namespace BW
variable {α β τ : Type} {c : Ce} {fa fb : F}
def cnt2D : D → D → R D
  | .lst l, x => cntD (.lst l) x
  | .tup l, x => cntTD (.tup l) x
  | _, _ => .no
theorem ev_cnt {ra : R α} {r : R τ} {e1 : α → D} {e : τ → D} (h1 : EvE c fa ra e1) (hs : ∀ x, ∃ l, e1 x = .lst l ∨ e1 x = .tup l) (h : EvE c (f2 cnt2D fa fb) r e) (hr : ra = .no → r = .no := by intro h; first | cases h | (rw [h]; rfl)) : EvE c (fCnt fa fb) r e := fun env H => by
  by_cases hn : ra = .no
  · rw [hr hn]; exact trivial
  have k1 := h1 env H
  have k := h env H
  have q : fCnt fa fb env = f2 cnt2D fa fb env := by
    unfold fCnt f2
    cases ra with
    | ok x =>
      have k2 : fa env = .ok (e1 x) := k1
      rw [k2]
      obtain ⟨l, y | y⟩ := hs x <;> rw [y] <;> rfl
    | er a p => have k2 : fa env = .er a p := k1; rw [k2]; rfl
    | no => exact absurd rfl hn
  rw [q]
  exact k
theorem rf_cnt2B {l : List Bool} {x : Bool} : RefR (cnt2D (eL eB l) (eB x)) (.ok (l.count x : Int)) eI := rf_cntB
/-! one of two kinds -/
def unL : α ⊕ β → R α
  | .inl a => .ok a
  | .inr _ => .no
def unR : α ⊕ β → R β
  | .inr a => .ok a
  | .inl _ => .no
@[simp] theorem unL_ok (a : α) : unL (.inl a : α ⊕ β) = .ok a := id rfl
@[simp] theorem unR_ok (a : β) : unR (.inr a : α ⊕ β) = .ok a := id rfl
end BW
/-! BTy7: dicts from whole numbers, as lists of pairs. -/
namespace BW
open PySem PySem.Spec
variable {α β τ Λ Γ ρ : Type} {c : Ce}
def kD (t : List (Int × α)) : List Int := t.map (·.1)
def lk : List (Int × α) → Int → Option α
  | (k, d) :: t, x => if k = x then some d else lk t x
  | [], _ => none
/-! expressions -/
variable {e1 : α → D} {e : ρ → D} {fk f : F}
/-! statements -/
variable {g : G} {out : Γ → Ce} {lo : Λ → Ce} {ke : En → Prop}
/-! a list or None, compared -/
theorem py_list {e : α → D} {l : List α} {y : PyData} (h : py (eL e l) = some y) : ∃ ps, y = .list ps := by
  have h : (pyA (l.map e)).map PyData.list = some y := h
  cases hp : pyA (l.map e) with
  | none => rw [hp] at h; cases h
  | some ps => rw [hp] at h; exact ⟨ps, (Option.some.inj h).symm⟩
theorem plO {k : Nat} {e : α → D} (p : PlE k (eL e)) : PlE k (eO (eL e)) := ⟨fun o => match o with
  | none => ⟨.none, rfl, by first | rfl | simp [PyData.canLay0], by simp [PyData.depth]⟩
  | some l => p.py l, fun a b x y h1 h2 => by
    cases a with
    | none =>
      cases b with
      | none => cases h1; cases h2; simp [PyData.eqv]
      | some m =>
        obtain ⟨qs, rfl⟩ := py_list (show py (eL e m) = some y from h2)
        cases h1
        simp [PyData.eqv]
    | some l =>
      cases b with
      | none =>
        obtain ⟨ps, rfl⟩ := py_list (show py (eL e l) = some x from h1)
        cases h2
        simp [PyData.eqv]
      | some m =>
        rw [p.eqv l m x y h1 h2]
        simp⟩
end BW
/-! BTy8: a, b = x, y. -/
namespace BW
variable {α β Λ Γ ρ : Type} {c : Ce} {fa fb : F} {e1 : α → D} {e2 : β → D} {e : ρ → D} {g : G} {out : Γ → Ce} {lo : Λ → Ce} {ke : En → Prop}
theorem sim_par {i j : Nat} {x : α} {y : β} {t : TR Λ Γ ρ} (h1 : EvE c fa (.ok x) e1) (h2 : EvE c fb (.ok y) e2) (k : Sim ((c.set i (some (.im (e1 x)))).set j (some (.im (e2 y)))) g t out lo ke e) : Sim c (gSeq (gPar i j fa fb) g) t out lo ke e := fun env H => by
  have q1 : fa env = .ok (e1 x) := h1 env H
  have q2 : fb env = .ok (e2 y) := h2 env H
  have E : gSeq (gPar i j fa fb) g env = g ((env.set i (.im (e1 x))).set j (.im (e2 y))) := by
    unfold gSeq gPar
    rw [q1, q2]
    rfl
  rw [E]
  exact k _ ((H.set i _).set j _)
end BW
/-! BTy9: x.insert(i, y), x.remove(k). -/
namespace BW
variable {α β Λ Γ ρ : Type} {c : Ce} {fa fb : F} {e1 : α → D} {e : ρ → D} {g : G} {out : Γ → Ce} {lo : Λ → Ce} {ke : En → Prop}
@[irreducible] def insT (l : List α) (n : Int) (y : α) : R (List α) := if 0 ≤ n ∧ n < 2 ^ 62 ∧ l.length < 16777216 then .ok (l.take n.toNat ++ [y] ++ l.drop n.toNat) else .no
theorem sim_ins {i : Nat} {n : Int} {y : α} {l : List α} {t : List α → TR Λ Γ ρ} (hc : c[i]? = some (some (.mu (l.map e1)))) (h1 : EvE c fa (.ok n) eI) (h2 : EvE c fb (.ok y) e1) (k : ∀ m : List α, Sim (c.set i (some (.mu (m.map e1)))) g (t m) out lo ke e) : Sim c (gSeq (gIns i fa fb) g) (TR.ob (insT l n y) t) out lo ke e := fun env H => by
  have q0 := H.get hc
  have q1 : fa env = .ok (.int n) := h1 env H
  have q2 : fb env = .ok (e1 y) := h2 env H
  unfold insT
  by_cases hz : 0 ≤ n ∧ n < 2 ^ 62 ∧ l.length < 16777216
  · rw [if_pos hz]
    have E0 : gIns i fa fb env = .nx (env.set i (.mu ((l.take n.toNat ++ [y] ++ l.drop n.toNat).map e1))) := by
      unfold gIns
      rw [q0, q1, q2]
      show (if 0 ≤ n ∧ n < 2 ^ 62 ∧ (l.map e1).length < PySem.sizeLine then SR.nx (env.set i (.mu ((l.map e1).take n.toNat ++ [e1 y] ++ (l.map e1).drop n.toNat))) else .no) = _
      rw [if_pos ⟨hz.1, hz.2.1, by rw [List.length_map, PySem.sizeLine_eq]; exact hz.2.2⟩, List.map_append, List.map_append, List.map_take, List.map_drop]
      rfl
    have E : gSeq (gIns i fa fb) g env = g (env.set i (.mu ((l.take n.toNat ++ [y] ++ l.drop n.toNat).map e1))) := by
      unfold gSeq
      rw [E0]
    rw [E]
    exact k _ _ (H.set i _)
  · rw [if_neg hz]
    trivial
end BW
/-! BTy10: a list comprehension over a lent list. -/
namespace BW
variable {α : Type} {c : Ce}
end BW
/-! BTy11: max and min of three, x[a:b] = .., x.index(y). -/
namespace BW
variable {α β Λ Γ ρ : Type} {c : Ce} {fa fb f : F} {e1 : α → D} {e : ρ → D} {g : G} {out : Γ → Ce} {lo : Λ → Ce} {ke : En → Prop}
theorem rf_min3 {i j k : Int} : RefR (min3D [eI i, eI j, eI k]) (.ok (min (min i j) k)) eI := rfl
theorem sim_insb {i : Nat} {n : R Int} {y : R α} {l : List α} {t : List α → TR Λ Γ ρ} (hk : Kp c ke) (hc : c[i]? = some (some (.mu (l.map e1)))) (h1 : EvE c fa n eI) (h2 : EvE c fb y e1) (k : ∀ m : List α, Sim (c.set i (some (.mu (m.map e1)))) g (t m) out lo ke e) : Sim c (gSeq (gIns i fa fb) g) (TR.ob (n.bind fun n => y.bind fun y => insT l n y) t) out lo ke e := by
  cases n with
  | ok n =>
    cases y with
    | ok y => exact sim_ins hc h1 h2 k
    | er m p =>
      intro env H
      have q1 := H.get hc
      have q2 : fa env = .ok (.int n) := h1 env H
      have q3 : fb env = .er m p := h2 env H
      refine ⟨env, ?_, hk env H⟩
      have E : gIns i fa fb env = .er env m p := by unfold gIns; rw [q1, q2, q3]; rfl
      unfold gSeq; rw [E]
    | no => exact fun _ _ => trivial
  | er m p =>
    intro env H
    have q1 := H.get hc
    have q2 : fa env = .er m p := h1 env H
    refine ⟨env, ?_, hk env H⟩
    have E : gIns i fa fb env = .er env m p := by unfold gIns; rw [q1, q2]; rfl
    unfold gSeq; rw [E]
  | no => exact fun _ _ => trivial
/-! index -/
end BW
/-! BTy12: a < b < c. -/
namespace BW
variable {c : Ce} {fa fb fc : F}
end BW
/-! BTy13: a web or a bool, asked whether it is a bool. -/
namespace BW
end BW
/-! BTy14: a slot that holds a list of its own, or None. -/
namespace BW
open PySem PySem.Spec PyProof.Rows L2
variable {α β Λ Γ ρ : Type} {c : Ce} {f : F} {g : G} {e1 : α → D} {out : Γ → Ce} {lo : Λ → Ce} {ke : En → Prop} {e : ρ → D}
end BW
/-! BTy15: a dict frozen and walked; what it holds, or another value; an either slot's content. -/
namespace BW
open PySem PySem.Spec PyProof.Rows L2
variable {α β Λ Γ ρ : Type} {c : Ce} {f fk fd : F} {g : G} {e1 : α → D} {out : Γ → Ce} {lo : Λ → Ce} {ke : En → Prop} {e : ρ → D}
end BW
/-! BTy16: an error raised with what it keeps. -/
namespace BW
open PySem PySem.Spec PyProof.Rows L2
variable {α Λ Γ ρ : Type} {c : Ce} {f : F} {e1 : α → D} {out : Γ → Ce} {lo : Λ → Ce} {ke : En → Prop} {e : ρ → D}
end BW
/-! BTy17: a told dict. -/
namespace BW
open PySem PySem.Spec PyProof.Rows L2
variable {α : Type} {c : Ce} {fk : F} {e1 : α → D}
end BW
/-! BTy18: enumerate. -/
namespace BW
open PySem PySem.Spec PyProof.Rows L2
variable {α : Type} {e : α → D}
variable {Λ Γ ρ : Type} {c : Ce} {f fk : F} {g : G} {e1 : α → D} {out : Γ → Ce} {lo : Λ → Ce} {ke : En → Prop} {er : ρ → D}
end BW
/-! BTy19: what is borrowed. -/
namespace BW
open PySem PySem.Spec PyProof.Rows L2
variable {α : Type} {c : Ce}
end BW
/-! BTy20: a kept error, with what it keeps. -/
namespace BW
open PySem PySem.Spec PyProof.Rows L2
abbrev eXp (x : Nat × List D) : D := .exc x.1 x.2
section
variable {Λ Γ ρ : Type}
def TR.trEX (o : Option Bool) (c : Nat) (p : List D) (t : TR Λ Γ ρ) : TR Λ Γ ρ := match o with
  | some true => t.noE
  | some false => .er c p
  | none => .no
def TR.trX (t : TR Λ Γ ρ) (tb : List (Nat × Bool)) (s : Nat × List D → TR Λ Γ ρ) : TR Λ Γ ρ := match t with
  | .er c p => TR.trEX (tb.lookup c) c p (s (c, p))
  | t => t
@[simp] theorem trX_er (c p tb) (k : Nat × List D → TR Λ Γ ρ) : TR.trX (.er c p) tb k = TR.trEX (tb.lookup c) c p (k (c, p)) := id rfl
@[simp] theorem trEX_t (c p) (t : TR Λ Γ ρ) : TR.trEX (some true) c p t = t.noE := id rfl
@[simp] theorem trEX_f (c p) (t : TR Λ Γ ρ) : TR.trEX (some false) c p t = .er c p := id rfl
@[simp] theorem trX_nx (a : Γ) (tb) (k : Nat × List D → TR Λ Γ ρ) : TR.trX (.nx a) tb k = .nx a := id rfl
@[simp] theorem trX_bk (a : Λ) (tb) (k : Nat × List D → TR Λ Γ ρ) : TR.trX (.bk a) tb k = .bk a := id rfl
@[simp] theorem trX_ct (a : Λ) (tb) (k : Nat × List D → TR Λ Γ ρ) : TR.trX (.ct a) tb k = .ct a := id rfl
@[simp] theorem trX_rt (a : ρ) (tb) (k : Nat × List D → TR Λ Γ ρ) : TR.trX (.rt a) tb k = .rt a := id rfl
variable {c : Ce} {out : Γ → Ce} {lo : Λ → Ce} {ke : En → Prop} {e : ρ → D}
end
/-! ### isinstance, and the field -/
def xfT (c : Nat) (x : Nat × List D) : R (Option Int) := if x.1 = c then (match x.2 with
  | [.int i] => .ok (some i)
  | [.non] => .ok none
  | _ => .no) else .no
@[simp] theorem xfT_i (c : Nat) (i : Int) : xfT c (c, [.int i]) = .ok (some i) := by unfold xfT; rw [if_pos rfl]
@[simp] theorem xfT_n (c : Nat) : xfT c (c, [.non]) = .ok none := by unfold xfT; rw [if_pos rfl]
/-! isinstance of what may be None -/
end BW
/-! BTy21: pairs of a scalar and a new list. -/
namespace BW
open PySem PySem.Spec PyProof.Rows L2
variable {α β : Type} {c : Ce}
/-! what is known, said anew -/
end BW
/-! BTy22: names that own all within, typed. -/
namespace BW
open PySem PySem.Spec PyProof.Rows L2
section
variable {α β : Type} {c : Ce} {f : F} {fs : FA}
end
/-! ### the list's first lists, and its width -/
section
variable {Λ Γ ρ α β : Type} {c : Ce} {f : F} {g : G} {out : Γ → Ce} {lo : Λ → Ce} {ke : En → Prop} {e : ρ → D} {e1 : α → D} {e2 : β → D}
end
end BW
/-! BTy23: a loop that only tests, typed. -/
namespace BW
open PySem PySem.Spec PyProof.Rows L2
section
variable {Λ Γ ρ α : Type} {c : Ce} {f : F} {g : G} {out : Γ → Ce} {lo : Λ → Ce} {ke : En → Prop} {e : ρ → D} {e0 : α → D}
end
end BW
/-! BTy24: own pairs, typed. -/
namespace BW
open PySem PySem.Spec PyProof.Rows L2
section
variable {Λ Γ ρ α β τ : Type} {c : Ce} {f : F} {g : G} {out : Γ → Ce} {lo : Λ → Ce} {ke : En → Prop} {e : ρ → D} {e1 : α → D} {e2 : β → D}
end
end BW
/-! BTy25: sorted(set(..)), typed. -/
namespace BW
open PySem PySem.Spec PyProof.Rows L2
section
variable {α : Type} {e2 : α → D}
end
end BW
/-! BTy26: sorted(dict), typed. -/
namespace BW
open PySem PySem.Spec PyProof.Rows L2
end BW
/-! BTy27: texts, typed. -/
namespace BW
open PySem PySem.Spec PyProof.Rows L2
section
variable {α : Type} {e : α → D}
end
end BW
/-! BTy28: a web or a kept error or None; a number or a text. -/
namespace BW
open PySem PySem.Spec PyProof.Rows L2
end BW
/-! BTy29: own triples, typed. -/
namespace BW
open PySem PySem.Spec PyProof.Rows L2
section
variable {Λ Γ ρ α β γ τ : Type} {c : Ce} {f f1 f2 : F} {g : G} {out : Γ → Ce} {lo : Λ → Ce} {ke : En → Prop} {e : ρ → D} {e1 : α → D} {e2 : β → D} {e3 : γ → D}
end
section
variable {β : Type} {c : Ce} {e2 : β → D}
end
section
open PySem
variable {α β γ : Type} {e1 : α → D} {e2 : β → D} {e3 : γ → D}
end
end BW
/-! BTy30: pairs of two new lists, typed. -/
namespace BW
open PySem PySem.Spec PyProof.Rows L2
section
variable {Λ Γ ρ α β τ : Type} {c : Ce} {f fa fb : F} {g : G} {out : Γ → Ce} {lo : Λ → Ce} {ke : En → Prop} {e : ρ → D} {e0 : τ → D} {e1 : α → D} {e2 : β → D}
end
section
variable {α β : Type} {e1 : α → D} {e2 : β → D}
end
end BW
/-! BTy31: reversed(range(n)), typed. -/
namespace BW
open PySem PySem.Spec PyProof.Rows L2
end BW
/-! BTy32: x.extend(a told pair), typed. -/
namespace BW
open PySem PySem.Spec PyProof.Rows L2
section
variable {α : Type} {e1 : α → D}
end
end BW
/-! BTy33: a loop's target read behind the loop. -/
namespace BW
open PySem PySem.Spec PyProof.Rows L2
end BW
/-! BTy34: tuple([list(x) for x in t]) of a tuple of four lists. -/
namespace BW
open PySem PySem.Spec PyProof.Rows L2
section
variable {α β γ δ : Type} {e1 : α → D} {e2 : β → D} {e3 : γ → D} {e4 : δ → D}
end
end BW
/-! BTy35: x.pop(i), x.append(x.pop(i)); tuples of four lists and lists of four. -/
namespace BW
open PySem PySem.Spec PyProof.Rows L2
variable {α : Type} {ea : α → D}
/-! tuples of four -/
@[irreducible] def tup4T (l : List α) : R (α × α × α × α) := match l with
  | [a, b, c, d] => .ok (a, b, c, d)
  | _ => .no
@[simp] theorem tup4T_ok (a b c d : α) : tup4T [a, b, c, d] = .ok (a, b, c, d) := by unfold tup4T; rfl
end BW
/-! BTy36: len of a dict; a, b = a tuple or a list. -/
namespace BW
open PySem PySem.Spec PyProof.Rows L2
variable {α : Type} {c c' : Ce} {e1 : α → D}
end BW
/-! BTy37: len(set(list of whole numbers)). -/
namespace BW
open PySem PySem.Spec PyProof.Rows L2
end BW
/-! BTy38: x[1].append(y) of an own pair whose second part is a list or None. -/
namespace BW
open PySem PySem.Spec PyProof.Rows L2
section
variable {Λ Γ ρ α β τ : Type} {c : Ce} {f : F} {g : G} {out : Γ → Ce} {lo : Λ → Ce} {ke : En → Prop} {e : ρ → D} {e1 : α → D} {e2 : β → D}
end
end BW
/-! BTy39: pairs met, kept in a dict, as a typed function. -/
namespace BW
open PySem PySem.Spec PyProof.Rows L2
section
variable {B : MtF} {w c : D} {f0 : R Bool} {fi : R (List Int)} {ft : Int → R Bool} {fi2 : Int → R (List Int)} {fk : Int → Int → R (Int × Int)}
end
/-! ### an own list of what is no list, or None -/
section
variable {Λ Γ ρ α β : Type} {c : Ce} {f : F} {g : G} {out : Γ → Ce} {lo : Λ → Ce} {ke : En → Prop} {e : ρ → D} {e1 : α → D}
end
end BW
/-! BTy40: isinstance of an error by three classes, typed. -/
namespace BW
open PySem PySem.Spec PyProof.Rows L2
section
variable {α : Type} {c : Ce} {f : F} {e : α → D}
end
end BW
/-! BTy41: how many unlike pairs, typed. -/
namespace BW
open PySem PySem.Spec PyProof.Rows L2
end BW
/-! BTy42: a name set from a comprehension over an own name; a list of tuples of four lists, changed within. -/
namespace BW
open PySem PySem.Spec PyProof.Rows L2
theorem Has.len : ∀ {c : Ce} {e : En}, Has c e → c.length = e.length
  | _, _, .nil => rfl
  | _, _, .som k => congrArg (· + 1) k.len
  | _, _, .non k => congrArg (· + 1) k.len
section
variable {Λ Γ ρ α : Type} {c : Ce} {f : F} {g : G} {out : Γ → Ce} {lo : Λ → Ce} {ke : En → Prop} {e : ρ → D} {e1 : α → D}
end
end BW
/-! BTy43: a desk that is never changed; try with several clauses. -/
namespace BW
open PySem PySem.Spec PyProof.Rows L2
section
variable {τ α : Type} {c : Ce} {e : τ → D} {e1 : α → D} {md : List D → R D} {fo f : F} {fs : FA}
end
section
variable {Λ Γ ρ : Type}
abbrev TL (Λ Γ ρ : Type) := List (List (Nat × Bool) × (Nat × List D → TR Λ Γ ρ))
def TR.trS (c : Nat) (p : List D) : TL Λ Γ ρ → TR Λ Γ ρ
  | [] => .er c p
  | (tb, s) :: l => match tb.lookup c with
    | some true => (s (c, p)).noE
    | some false => TR.trS c p l
    | none => .no
def TR.trys (t : TR Λ Γ ρ) (l : TL Λ Γ ρ) : TR Λ Γ ρ := match t with
  | .er c p => TR.trS c p l
  | t => t
@[simp] theorem trys_er (c p) (l : TL Λ Γ ρ) : TR.trys (.er c p) l = TR.trS c p l := id rfl
@[simp] theorem trys_nx' (a : Γ) (l : TL Λ Γ ρ) : TR.trys (.nx a) l = .nx a := id rfl
@[simp] theorem trys_rt (a : ρ) (l : TL Λ Γ ρ) : TR.trys (.rt a) l = .rt a := id rfl
variable {c : Ce} {out : Γ → Ce} {lo : Λ → Ce} {ke : En → Prop} {e : ρ → D}
inductive SimH (ck : Ce) (out : Γ → Ce) (lo : Λ → Ce) (e : ρ → D) : HL → TL Λ Γ ρ → Prop
  | nil : SimH ck out lo e [] []
  | keep {i : Nat} {tb : List (Nat × Bool)} {suite : G} {s : Nat × List D → TR Λ Γ ρ} {l : HL} {m : TL Λ Γ ρ} (hn : ∀ x, out x = (out x).set i none) (hn2 : ∀ x, lo x = (lo x).set i none) (hs : ∀ k, Sim (ck.set i (some (.im (eXp k)))) suite (s k) out lo keT e) (r : SimH ck out lo e l m) : SimH ck out lo e ((tb, some i, suite) :: l) ((tb, s) :: m)
  | drop {tb : List (Nat × Bool)} {suite : G} {s : Nat × List D → TR Λ Γ ρ} {l : HL} {m : TL Λ Γ ρ} (hs : ∀ k, Sim ck suite (s k) out lo keT e) (r : SimH ck out lo e l m) : SimH ck out lo e ((tb, none, suite) :: l) ((tb, s) :: m)
end
end BW
/-! BTy44: a pair of two own lists, told apart. -/
namespace BW
open PySem PySem.Spec PyProof.Rows L2
section
variable {Λ Γ ρ α β τ : Type} {c : Ce} {f fa fb : F} {g : G} {out : Γ → Ce} {lo : Λ → Ce} {ke : En → Prop} {e : ρ → D} {e0 : τ → D} {e1 : α → D} {e2 : β → D}
end
/-! ### lists of texts compared -/
end BW
/-! BTy45: dealt by turns, as a typed function. -/
namespace BW
open PySem PySem.Spec PyProof.Rows L2
section
variable {α : Type} {e : α → D} {ft : α → R Bool}
end
/-! ### a list so many times; a new dict whose key is reckoned -/
section
variable {Λ Γ ρ α β : Type} {c : Ce} {fk f : F} {g : G} {out : Γ → Ce} {lo : Λ → Ce} {ke : En → Prop} {e : ρ → D} {e1 : α → D}
end
end BW
/-! BTy46: a desk whose history changes, typed. -/
namespace BW
open PySem PySem.Spec PyProof.Rows L2
section
variable {md : List D → R D} {t : Str} {rr : R (List Str)} {ri : List Str → R (List Int)} {rb : List Str → List W → Int → R (List W)} {rt : List Str → R Bool} {rl : List Str → R Int}
end
section
variable {Λ Γ ρ τ : Type} {c : Ce} {f fe : F} {g : G} {out : Γ → Ce} {lo : Λ → Ce} {ke : En → Prop} {e : ρ → D}
/-! lent -/
def lendR {α : Type} (r : R α) : R α := match r with
  | .ok a => .ok a
  | _ => .no
@[simp] theorem lendR_ok {α : Type} (a : α) : lendR (R.ok a) = .ok a := rfl
end
end BW
/-! BTy47: a def that tells its desk a deed and hands back what came of it, typed. -/
namespace BW
open PySem PySem.Spec PyProof.Rows L2
section
variable {Λ Γ ρ : Type} {c : Ce} {f f2 : F} {g gT : G} {out : Γ → Ce} {lo : Λ → Ce} {ke : En → Prop} {e : ρ → D}
end
end BW
/-! BTy48: exchanged, typed. -/
namespace BW
open PySem PySem.Spec PyProof.Rows L2
section
variable {α Λ Γ ρ : Type} {c : Ce} {f fk : F} {g : G} {e1 : α → D} {out : Γ → Ce} {lo : Λ → Ce} {ke : En → Prop} {er : ρ → D}
end
section
variable {α β Λ Γ ρ : Type} {c : Ce} {fa fb : F} {g : G} {e1 : α → D} {e2 : β → D} {out : Γ → Ce} {lo : Λ → Ce} {ke : En → Prop} {e : ρ → D}
end
end BW
/-! BTy49: lists of an own tuple of one of two kinds, changed one behind the other. -/
namespace BW
open PySem PySem.Spec PyProof.Rows L2
section
variable {Λ Γ ρ α β γ τ : Type} {c : Ce} {fa : F} {g : G} {out : Γ → Ce} {lo : Λ → Ce} {ke : En → Prop} {e : ρ → D} {e1 : α → D} {e2 : β → D} {e3 : γ → D} {e0 : τ → D}
end
end BW
/-! BTy50: a pair (or four values) whose second part is a new list, told apart; the list is held by a name. -/
namespace BW
open PySem PySem.Spec PyProof.Rows L2
section
variable {Λ Γ ρ α β γ δ : Type} {c : Ce} {f : F} {g : G} {out : Γ → Ce} {lo : Λ → Ce} {ke : En → Prop} {e : ρ → D} {e1 : α → D} {e2 : β → D} {e3 : γ → D} {e4 : δ → D}
end
/-! ### one of two kinds of tuples -/
section
variable {α β γ : Type} {e1 : α → D} {e2 : β → D} {e3 : γ → D}
def wordU : (Str × α × β) ⊕ (Str × γ) → Str
  | .inl a => a.1
  | .inr b => b.1
@[irreducible] def eqU [DecidableEq α] [DecidableEq β] [DecidableEq γ] (a b : (Str × α × β) ⊕ (Str × γ)) : R Bool := if PyData.strOk (wordU a) && PyData.strOk (wordU b) then .ok (decide (a = b)) else .no
end
end BW
/-! BTy51: an own value lent to two statements. -/
namespace BW
open PySem PySem.Spec PyProof.Rows L2
section
variable {Λ Γ ρ α β : Type} {c : Ce} {f1 f2 : F} {g : G} {out : Γ → Ce} {lo : Λ → Ce} {ke : En → Prop} {e : ρ → D} {e1 : α → D} {e2 : β → D}
end
end BW
/-! BTy52: lists copied and spoiled in one of seven ways, typed. -/
namespace BW
open PySem PySem.Spec PyProof.Rows L2
end BW
/-! BTy53: whirls counted over a dict keyed by pairs, typed. -/
namespace BW
open PySem PySem.Spec PyProof.Rows L2
section
variable {tc : List (Int × Int) → Int → R (List Int)} {mc : List D → R D}
def bothT (ks : List (Int × Int)) : List (Int × Int) := ks ++ ks.map fun x => (x.2, x.1)
def comeT (tc : List (Int × Int) → Int → R (List Int)) (l : PK) (k : Int × Int) : R Bool := (tc (bothT (l.map (·.1))) k.1).bind fun c => .ok (decide (k.2 ∈ c))
def whTZ (tc : List (Int × Int) → Int → R (List Int)) (n : Nat) (l : PK) : R Int := whG (comeT tc) n l
theorem inD_int {q : Int} {c : List Int} : RefR (inD (eI q) (eL eI c)) (.ok (decide (q ∈ c))) eB := rf_inL
theorem both_t (l : PK) : D.lst (bothZ l) = eL (eP eI eI) (bothT (l.map (·.1))) := by
  unfold bothZ bothT
  show D.lst _ = D.lst (List.map _ _)
  rw [List.map_append, List.map_map, List.map_map, List.map_map]
  rfl
theorem come_ok (hc : ∀ p q, RefR (mc [eL (eP eI eI) p, eI q]) (tc p q) (eL eI)) (l : PK) (k : Int × Int) (b : Bool) (h : comeT tc l k = .ok b) : comeM mc l k = .ok b := by
  unfold comeT at h
  obtain ⟨c, h1, h2⟩ := bindW_ok h
  cases h2
  have q := hc (bothT (l.map (·.1))) k.1
  rw [h1] at q
  have q : mc [eL (eP eI eI) (bothT (l.map (·.1))), eI k.1] = .ok (eL eI c) := q
  unfold comeM
  rw [both_t]
  show (match (mc [eL (eP eI eI) (bothT (l.map (·.1))), eI k.1]).bind lsD with
    | .ok c => _
    | _ => _) = _
  rw [q]
  show (match inD (eI k.2) (eL eI c) with
    | .ok (.bl b) => R.ok b
    | _ => .no) = _
  have i := inD_int (q := k.2) (c := c)
  have i : inD (eI k.2) (eL eI c) = .ok (.bl (decide (k.2 ∈ c))) := i
  rw [i]
def howT (tc : List (Int × Int) → Int → R (List Int)) (n : Nat) (w : W) : R Int := if w.ties.length ≤ 1000 ∧ 0 ≤ (gaZ w.ties).2 ∧ (gaZ w.ties).2 ≤ 60 then match whTZ tc n (gaZ w.ties).1 with
    | .ok r => .ok (2 ^ (gaZ w.ties).2.toNat * r)
    | _ => .no
  else .no
theorem prs_t : ∀ ts : List (Int × Int), tiesZ.prsZ (ts.map (eP eI eI)) = some ts
  | [] => rfl
  | t :: ts => by
    show (tiesZ.prsZ (ts.map (eP eI eI))).map (fun r => (t.1, t.2) :: r) = _
    rw [prs_t ts]
    rfl
theorem sim_how {Λ Γ : Type} {n : Nat} {w : W} {out : Γ → Ce} {lo : Λ → Ce} {ke : En → Prop} (hc : ∀ p q, RefR (mc [eL (eP eI eI) p, eI q]) (tc p q) (eL eI)) : Sim [some (.im (eW w)), none, none] (gHow mc n) (TR.ob (howT tc n w) .rt : TR Λ Γ Int) out lo ke eI := fun env H => by
  obtain ⟨s1, s2, rfl⟩ : ∃ s1 s2, env = [.im (eW w), s1, s2] := by
    cases H with
    | som H =>
      cases H with
      | non H =>
        cases H with
        | non H =>
          cases H
          exact ⟨_, _, rfl⟩
  have ht : tiesZ (eW w) = some w.ties := prs_t w.ties
  have e : gHow mc n [.im (eW w), s1, s2] = if w.ties.length ≤ 1000 ∧ 0 ≤ (gaZ w.ties).2 ∧ (gaZ w.ties).2 ≤ 60 then match whM mc n (gaZ w.ties).1 with
      | .ok r => .rt (.int (2 ^ (gaZ w.ties).2.toNat * r))
      | _ => .no
      else .no := by
    show (match tiesZ (eW w) with
      | some ts => _
      | none => _) = _
    rw [ht] <;> rfl
  unfold howT
  by_cases c : w.ties.length ≤ 1000 ∧ 0 ≤ (gaZ w.ties).2 ∧ (gaZ w.ties).2 ≤ 60
  · rw [if_pos c] at e
    rw [if_pos c]
    cases hw : whTZ tc n (gaZ w.ties).1 with
    | ok r =>
      have k : whM mc n (gaZ w.ties).1 = .ok r := whG_mono (come_ok hc) n _ _ hw
      rw [k] at e
      exact e
    | er _ _ => trivial
    | no => trivial
  · rw [if_neg c]
    trivial
end
end BW
namespace BW.Wk
open PySem PySem.Spec PyProof.Rows L2
open Evl (Ex Ex.refl Ex.trans Ex.new ex_rd ex_l ex_t)
def b1_come_to : G := gIf (fAnd (f2 eqD (fI 4) (f2 ixD (fLs (fV 2)) (fI 3))) (f2 ninD (fI 5) (fL 2))) (gMut 2 (fI 5) kApp) gNext
def w1_come_to : G := gSeq (gFor (f1 seqD (fI 0)) (tT 2 (tsCons (tN 4) (tsCons (tN 5) tsNil))) b1_come_to)
  (gAug 3 (fC (.int 1)) (· + ·))
def c1_come_to : F := f2 ltD (fI 3) (fA lenD (aCons (fL 2) aNil))
def g_come_to : G := gSeq (gSetM 2 (fA lstD (aCons (fI 1) aNil)))
  (gSeq (gSet 3 (fC (.int 0)))
  (gSeq (gWhile 1000 c1_come_to w1_come_to)
  (gRetM 2)))
def m_come_to : List D → R D := defN n_come_to.length [true, true] g_come_to
def g_how_many_whirls : G := gSeq (gIf (f2 gtD (fA lenD (aCons (f1 (atD 0 "ties") (fI 0)) aNil)) (fC (.int 12))) (gRaise 4) gNext)
  (gHow m_come_to 14)
def m_how_many_whirls : List D → R D := defD n_how_many_whirls.length [true] g_how_many_whirls
def g__law_cell : G := gSeq (gIf (f2 ltD (fI 1) (fA lenD (aCons (fI 0) aNil))) (gRet (f2 ixD (fI 0) (fI 1))) gNext)
  (gRet (fC (.int 0)))
def m__law_cell : List D → R D := defD n__law_cell.length [true, true] g__law_cell
def g__law_whole : G := gRet (fAnd (f1 (isiS "int") (fI 0)) (fNot (f1 (isiS "bool") (fI 0))))
def m__law_whole : List D → R D := defD n__law_whole.length [true] g__law_whole
def g__law_alone : G := gSeq (gSet 1 (fLs (fA lstD (aCons (f1 (isoD [(2, false), (3, true), (4, false), (5, false), (6, false), (7, false), (8, false), (10, false), (11, false)]) (fI 0)) (aCons (f1 (isoD [(2, false), (3, false), (4, true), (5, false), (6, false), (7, false), (8, false), (10, false), (11, false)]) (fI 0)) (aCons (f1 (isoD [(2, false), (3, false), (4, false), (5, true), (6, false), (7, false), (8, false), (10, false), (11, false)]) (fI 0)) (aCons (f1 (isoD [(2, false), (3, false), (4, false), (5, false), (6, true), (7, false), (8, false), (10, false), (11, false)]) (fI 0)) aNil)))))))
  (gSeq (gSet 1 (fLs (f2 catD (fLs (fI 1)) (fLs (fA lstD (aCons (f1 (isoD [(2, false), (3, false), (4, false), (5, false), (6, false), (7, true), (8, false), (10, false), (11, false)]) (fI 0)) (aCons (f1 (isoD [(2, false), (3, false), (4, false), (5, false), (6, false), (7, false), (8, true), (10, false), (11, false)]) (fI 0)) (aCons (f1 (isoD [(2, false), (3, false), (4, false), (5, false), (6, false), (7, false), (8, false), (10, false), (11, false)]) (fI 0)) (aCons (f1 (isoD [(2, false), (3, false), (4, false), (5, false), (6, false), (7, false), (8, false), (10, true), (11, false)]) (fI 0)) aNil)))))))))
  (gSeq (gSet 1 (fLs (f2 catD (fLs (fI 1)) (fLs (fA lstD (aCons (f1 (isoD [(2, false), (3, false), (4, false), (5, false), (6, false), (7, false), (8, false), (10, false), (11, true)]) (fI 0)) (aCons (f1 (isoD [(2, false), (3, false), (4, false), (5, false), (6, false), (7, false), (8, false), (10, false), (11, false)]) (fI 0)) (aCons (f1 (isoD [(2, false), (3, false), (4, false), (5, false), (6, false), (7, false), (8, false), (10, false), (11, false)]) (fI 0)) aNil))))))))
  (gRet (fAnd (f2 eqD (fCnt (fI 1) (fC (.bl true))) (fC (.int 1))) (fAnd (f1 (isoD [(2, true), (3, true), (4, true), (5, true), (6, true), (7, true), (8, true), (10, true), (11, true)]) (fI 0)) (f1 (isoD [(2, true), (3, true), (4, true), (5, true), (6, true), (7, true), (8, true), (10, true), (11, true)]) (fI 0)))))))
def m__law_alone : List D → R D := defD n__law_alone.length [true] g__law_alone
def b1__law_ends : G := gSeq (gSet 7 (fA m__law_cell (aCons (fI 0) (aCons (f2 addD (fC (.int 2)) (fI 6)) aNil))))
  (gSeq (gIf (f2 eqD (fI 3) (fC (.int 1))) (gSeq (gSet 7 (fI 4))
  (gSet 4 (f2 fdivD (fI 4) (f2 mulD (fI 1) (fI 1))))) gNext)
  (gSeq (gIf (f2 eqD (fI 3) (fC (.int 2))) (gSeq (gSet 8 (f2 modD (f2 mulD (f2 addD (f2 addD (f2 modD (fA m__law_cell (aCons (fI 0) (aCons (fC (.int 1)) aNil))) (fC (.int 1000000007))) (f2 mulD (fC (.int 977)) (fI 6))) (fC (.int 1))) (fC (.int 48271))) (fC (.int 2147483647))))
  (gSeq (gSet 8 (f2 modD (f2 mulD (fI 8) (fI 8)) (fC (.int 2147483647))))
  (gSet 7 (f2 fdivD (f2 modD (f2 mulD (fI 8) (fC (.int 69621))) (fC (.int 2147483647))) (fC (.int 8)))))) gNext)
  (gMut 5 (fA tupD (aCons (f2 modD (fI 7) (fI 1)) (aCons (f2 modD (f2 fdivD (fI 7) (fI 1)) (fI 1)) aNil))) kApp)))
def g__law_ends : G := gSeq (gSet 4 (fA absD (aCons (fA m__law_cell (aCons (fI 0) (aCons (fC (.int 1)) aNil))) aNil)))
  (gSeq (gSetM 5 (fA lstD aNil))
  (gSeq (gFor (fA rangeD (aCons (fI 2) aNil)) (tN 6) b1__law_ends)
  (gRetM 5)))
def m__law_ends : List D → R D := defN n__law_ends.length [true, true, true, true] g__law_ends
def g__law_drawn : G := gSeq (gSet 3 (fA m__law_cell (aCons (fI 0) (aCons (fC (.int 0)) aNil))))
  (gSeq (gSet 4 (f2 addD (fC (.int 1)) (f2 modD (fI 3) (fI 1))))
  (gSeq (gSet 5 (f2 modD (f2 addD (fA lenD (aCons (fI 0) aNil)) (f2 fdivD (fI 3) (f2 mulD (fC (.int 3)) (fI 1)))) (f2 addD (fI 2) (fC (.int 1)))))
  (gRet (fA tupD (aCons (fI 4) (aCons (fLs (fA m__law_ends (aCons (fI 0) (aCons (fI 4) (aCons (fI 5) (aCons (f2 modD (f2 fdivD (fI 3) (fI 1)) (fC (.int 3))) aNil)))))) aNil))))))
def m__law_drawn : List D → R D := defD n__law_drawn.length [true, true, true] g__law_drawn
def y1__law_led_ears : F := fA tupD (aCons (f2 ixD (fI 16) (fI 17)) (aCons (f2 ixD (fI 16) (f2 addD (fI 17) (fC (.int 1)))) aNil))
def b1__law_led_ears : G := gSeq (gSet 11 (f2 ixD (fI 0) (fI 6)))
  (gSeq (gSet 12 (f2 modD (fI 11) (fI 5)))
  (gSeq (gSet 13 (f2 modD (f2 fdivD (fI 11) (fC (.int 20))) (fI 5)))
  (gSeq (gSet 14 (fA min3D (aCons (f2 modD (f2 fdivD (fI 11) (fC (.int 400))) (fC (.int 4))) (aCons (f2 subD (fI 2) (fI 5)) (aCons (f2 subD (f2 subD (fI 3) (fC (.int 1))) (fA lenD (aCons (fL 4) aNil))) aNil)))))
  (gIf (f2 geD (fI 14) (fC (.int 0))) (gSeq (gSet 16 (fLs (f2 catD (fLs (f2 catD (fLs (fA lstD (aCons (fI 12) aNil))) (fLs (f2 rg2D (fI 5) (f2 addD (fI 5) (fI 14)))))) (fLs (fA lstD (aCons (fI 13) aNil))))))
  (gSeq (gMut 4 (fLs (fLc (fA rangeD (aCons (f2 subD (fA lenD (aCons (fI 16) aNil)) (fC (.int 1))) aNil)) (tN 17) (fC (.bl true)) y1__law_led_ears [17])) kExt)
  (gSet 5 (f2 addD (fI 5) (fI 14))))) gNext))))
def b2__law_led_ears : G := gSeq (gSet 8 (f2 modD (f2 mulD (fI 8) (fC (.int 48271))) (fC (.int 2147483647))))
  (gSeq (gSet 8 (f2 modD (f2 addD (f2 mulD (fI 8) (fI 8)) (f2 mulD (fC (.int 11)) (fI 6))) (fC (.int 2147483629))))
  (gIns 7 (f2 modD (f2 fdivD (fI 8) (fC (.int 8))) (f2 addD (fI 6) (fC (.int 1)))) (fI 6)))
def y2__law_led_ears : F := f2 eqD (f2 modD (f2 fdivD (fI 8) (f2 addD (fI 6) (fC (.int 3)))) (fC (.int 2))) (fC (.int 0))
def b3__law_led_ears : G := gSeq (gSet 15 (f2 ixD (fLs (fV 4)) (f2 ixD (fLs (fV 7)) (fI 6))))
  (gSeq (gIf (fNot (f2 ixD (fI 9) (fI 6))) (gSet 15 (fA tupD (aCons (f2 ixD (fI 15) (fC (.int 1))) (aCons (f2 ixD (fI 15) (fC (.int 0))) aNil)))) gNext)
  (gMut 10 (fI 15) kApp))
def g__law_led_ears : G := gSeq (gSetM 4 (fA lstD aNil))
  (gSeq (gSet 5 (fC (.int 1)))
  (gSeq (gFor (fA rangeD (aCons (fI 1) (aCons (fA lenD (aCons (fI 0) aNil)) aNil))) (tN 6) b1__law_led_ears)
  (gSeq (gSetM 7 (fA lstD aNil))
  (gSeq (gSet 8 (f2 addD (fC (.int 1)) (f2 modD (fA m__law_cell (aCons (fI 0) (aCons (fC (.int 1)) aNil))) (fC (.int 1000000007)))))
  (gSeq (gFor (fA rangeD (aCons (fA lenD (aCons (fL 4) aNil)) aNil)) (tN 6) b2__law_led_ears)
  (gSeq (gFrz 7) (gSeq (gSet 9 (fLs (fLc (f1 seqD (fI 7)) (tN 6) (fC (.bl true)) y2__law_led_ears [6])))
  (gSeq (gSetM 10 (fA lstD aNil))
  (gSeq (gFor (fA rangeD (aCons (fA lenD (aCons (fL 7) aNil)) aNil)) (tN 6) b3__law_led_ears)
  (gSeq (gFrz 10) (gRet (fA tupD (aCons (fI 5) (aCons (fI 10) (aCons (fI 9) aNil)))))))))))))))
def m__law_led_ears : List D → R D := defD n__law_led_ears.length [true, true, true, true] g__law_led_ears
def b1__law_come : G := gSeq (gUnp (tT 2 (tsCons (tN 7) (tsCons (tN 8) tsNil))) (f2 ixD (fI 0) (fI 6)))
  (gSeq (gIf (fNot (f2 ixD (fI 1) (fI 6))) (gPar 7 8 (fI 8) (fI 7)) gNext)
  (gIf (fAnd (f2 eqD (fI 7) (fI 5)) (f2 ninD (fI 8) (fL 3))) (gSeq (gMut 3 (fI 8) kApp)
  (gMut 4 (fI 8) kApp)) gNext))
def w1__law_come : G := gSeq (gPop 5 4)
  (gFor (fA rangeD (aCons (fA lenD (aCons (fI 0) aNil)) aNil)) (tN 6) b1__law_come)
def c1__law_come : F := f2 neD (fL 4) (fLs (fA lstD aNil))
def g__law_come : G := gSeq (gSetM 3 (fA lstD (aCons (fI 2) aNil)))
  (gSeq (gSetM 4 (fA lstD (aCons (fI 2) aNil)))
  (gSeq (gWhile 1000 c1__law_come w1__law_come)
  (gRetM 3)))
def m__law_come : List D → R D := defN n__law_come.length [true, true, true] g__law_come
def y1__law_whirl : F := fLs (fA m__law_come (aCons (fI 1) (aCons (fI 2) (aCons (fI 7) aNil))))
def b1__law_whirl : G := gSeq (gUnp (tT 2 (tsCons (tN 5) (tsCons (tN 6) tsNil))) (f2 ixD (fI 1) (fI 4)))
  (gSeq (gIf (fNot (f2 ixD (fI 2) (fI 4))) (gPar 5 6 (fI 6) (fI 5)) gNext)
  (gIf (f2 ninD (fI 5) (f2 ixD (fI 3) (fI 6))) (gRet (fC (.bl false))) gNext))
def g__law_whirl : G := gSeq (gSet 3 (fLs (fLc (fA rangeD (aCons (fI 0) aNil)) (tN 7) (fC (.bl true)) y1__law_whirl [7])))
  (gSeq (gFor (fA rangeD (aCons (fA lenD (aCons (fI 1) aNil)) aNil)) (tN 4) b1__law_whirl)
  (gRet (fC (.bl true))))
def m__law_whirl : List D → R D := defD n__law_whirl.length [true, true, true] g__law_whirl
def b1__law_turns : G := gSeq (gMut 3 (f2 eqD (f2 modD (fI 2) (fC (.int 2))) (fC (.int 1))) kApp)
  (gSet 2 (f2 fdivD (fI 2) (fC (.int 2))))
def g__law_turns : G := gSeq (gSet 2 (fA absD (aCons (fI 0) aNil)))
  (gSeq (gSetM 3 (fA lstD aNil))
  (gSeq (gFor (fA rangeD (aCons (fI 1) aNil)) (tN 4) b1__law_turns)
  (gRetM 3)))
def m__law_turns : List D → R D := defN n__law_turns.length [true, true] g__law_turns
def b1__law_refused : G := gDrop (fA m_how_many_whirls (aCons (fI 0) aNil))
def h1__law_refused : G := gSet 1 (fLs (fA lstD (aCons (f1 (isoD [(2, false), (3, false), (4, true), (5, false), (6, false), (7, false), (8, false), (10, false), (11, false)]) (fI 2)) (aCons (fA m__law_alone (aCons (fI 2) aNil)) aNil))))
def g__law_refused : G := gSeq (gSet 1 (fC .non))
  (gSeq (gTry 2 [(2, true), (3, true), (4, true), (5, true), (6, true), (7, true), (8, true), (9, true), (10, true), (11, true), (12, true), (13, true)] b1__law_refused h1__law_refused)
  (gRet (f2 eqD (fI 1) (fLs (fA lstD (aCons (fC (.bl true)) (aCons (fC (.bl true)) aNil)))))))
def m__law_refused : List D → R D := defD n__law_refused.length [true] g__law_refused
def g__law_is : G := gSeq (gSet 2 (fA m_how_many_whirls (aCons (fI 0) aNil)))
  (gRet (fAnd (fA m__law_whole (aCons (fI 2) aNil)) (f2 eqD (fI 2) (fI 1))))
def m__law_is : List D → R D := defD n__law_is.length [true, true] g__law_is
def b1_law : G := gSet 3 (f2 addD (fI 3) (fA intD (aCons (fA m__law_whirl (aCons (fI 1) (aCons (fI 2) (aCons (fLs (fA m__law_turns (aCons (fI 4) (aCons (fA lenD (aCons (fI 2) aNil)) aNil)))) aNil)))) aNil)))
def y1_law : F := fA tupD (aCons (f2 addD (fI 10) (fI 1)) (aCons (f2 addD (fI 11) (fI 1)) aNil))
def g_law : G := gSeq (gUnp (tT 2 (tsCons (tN 1) (tsCons (tN 2) tsNil))) (fA m__law_drawn (aCons (fI 0) (aCons (fC (.int 5)) (aCons (fC (.int 6)) aNil)))))
  (gSeq (gIf (f2 eqD (f2 modD (fA m__law_cell (aCons (fI 0) (aCons (fC (.int 0)) aNil))) (fC (.int 2))) (fC (.int 1))) (gUnp (tT 3 (tsCons (tN 1) (tsCons (tN 2) (tsCons (tN 9) tsNil)))) (fA m__law_led_ears (aCons (fI 0) (aCons (fC (.int 2)) (aCons (fC (.int 5)) (aCons (fC (.int 6)) aNil)))))) gNext)
  (gSeq (gSet 3 (fC (.int 0)))
  (gSeq (gFor (fA rangeD (aCons (f2 shlD (fC (.int 1)) (fA lenD (aCons (fI 2) aNil))) aNil)) (tN 4) b1_law)
  (gSeq (gIf (fNot (fA m__law_is (aCons (f1 lfD (fA webD (aCons (fI 1) (aCons (fLs (fA listD (aCons (fI 2) aNil))) aNil)))) (aCons (fI 3) aNil)))) (gRet (fC (.bl false))) gNext)
  (gSeq (gSet 5 (fLs (f2 catD (fLs (fI 2)) (fLs (fLc (f1 seqD (fI 2)) (tT 2 (tsCons (tN 10) (tsCons (tN 11) tsNil))) (fC (.bl true)) y1_law [10, 11])))))
  (gSeq (gIf (fNot (fA m__law_is (aCons (f1 lfD (fA webD (aCons (f2 mulD (fC (.int 2)) (fI 1)) (aCons (fI 5) aNil)))) (aCons (f2 mulD (fI 3) (fI 3)) aNil)))) (gRet (fC (.bl false))) gNext)
  (gSeq (gSet 6 (f2 modD (fA sumD (aCons (fI 0) aNil)) (fI 1)))
  (gSeq (gSet 7 (fLs (f2 repD (fLs (fA lstD (aCons (fA tupD (aCons (fI 6) (aCons (fI 6) aNil))) aNil))) (f2 subD (fC (.int 12)) (fA lenD (aCons (fI 2) aNil))))))
  (gSeq (gIf (fNot (fA m__law_is (aCons (f1 lfD (fA webD (aCons (fI 1) (aCons (f2 addD (fI 7) (fI 2)) aNil)))) (aCons (f2 shlD (fI 3) (fA lenD (aCons (fI 7) aNil))) aNil)))) (gRet (fC (.bl false))) gNext)
  (gSeq (gSet 8 (fLs (f2 repD (fLs (fA lstD (aCons (fA tupD (aCons (fC (.int 0)) (aCons (fC (.int 0)) aNil))) aNil))) (f2 addD (fC (.int 1)) (f2 modD (fA sumD (aCons (fI 0) aNil)) (fC (.int 28)))))))
  (gSeq (gIf (fNot (fA m__law_refused (aCons (f1 lfD (fA webD (aCons (fI 1) (aCons (fLs (f2 catD (fLs (f2 addD (fI 2) (fI 7))) (fLs (fA lstD (aCons (fA tupD (aCons (fI 6) (aCons (fC (.int 0)) aNil))) aNil))))) aNil)))) aNil))) (gRet (fC (.bl false))) gNext)
  (gRet (fA m__law_refused (aCons (f1 lfD (fA webD (aCons (fI 1) (aCons (f2 addD (f2 addD (fI 7) (fI 2)) (fI 8)) aNil)))) aNil))))))))))))))
def m_law : List D → R D := defD n_law.length [true] g_law
structure Tx (P : Program) (w : World) (K : PySem.W.Frag) (mg : Str → Option Value) (base : Heap) : Prop where
  c : BW.SaysB fa fn ex K
  gl : ∀ x : Str, (He.Fa.glo x).ok K = true → mg x = some (.ref (He.ga K x))
  fr : ∀ x : Str, (He.Fa.free x).ok K = true → mg x = none
  gi : ∀ (x : Str) (i : Int), (He.Fa.int x i).ok K = true → ∃ t, mg x = some (.int i t)
  gs : ∀ (x z : Str), (He.Fa.str x z).ok K = true → ∃ t, mg x = some (.str z t)
section
variable {P : Program} {w : World} {K : PySem.W.Frag} {mg : Str → Option Value} {base : Heap}
theorem Tx.fr_len (T : Tx P w K mg base) : mg "len" = none := T.fr _ (T.c.d.fact 0 rfl)
theorem Tx.cl_Web (T : Tx P w K mg base) : Cls K (He.ga K "Web") := He.cls_ok (T.c.d.fact 1 rfl)
theorem Tx.na_ties (T : Tx P w K mg base) : NoAttr K (He.ga K "Web") "ties" := He.noat_ok (T.c.d.fact 2 rfl)
theorem Tx.fr_max (T : Tx P w K mg base) : mg "max" = none := T.fr _ (T.c.d.fact 3 rfl)
theorem Tx.fr_min (T : Tx P w K mg base) : mg "min" = none := T.fr _ (T.c.d.fact 4 rfl)
theorem Tx.fr_list (T : Tx P w K mg base) : mg "list" = none := T.fr _ (T.c.d.fact 5 rfl)
theorem Tx.fr_dict (T : Tx P w K mg base) : mg "dict" = none := T.fr _ (T.c.d.fact 6 rfl)
theorem Tx.gi_MOST_TRIED (T : Tx P w K mg base) : ∃ t, mg "MOST_TRIED" = some (.int 12 t) := T.gi _ _ (T.c.d.fact 7 rfl)
theorem Tx.gl_TooMany (T : Tx P w K mg base) : mg "TooMany" = some (.ref (He.ga K "TooMany")) := T.gl _ (T.c.d.fact 8 rfl)
theorem Tx.ex_TooMany (T : Tx P w K mg base) : PySem.W.excIn K (He.ga K "TooMany") He.veBase "ValueError.__new__" = true ∧ PySem.W.keepIn K (.ref (He.ga K "TooMany")) = true ∧ PySem.W.subIn K (.ref (He.ga K "TooMany")) (.type "BaseException") = some true ∧ PySem.W.typeIn K (.ref (He.ga K "TooMany")) = some (.type "type") := He.exc_ok (T.c.d.fact 9 rfl)
theorem Tx.fr_isinstance (T : Tx P w K mg base) : mg "isinstance" = none := T.fr _ (T.c.d.fact 10 rfl)
theorem Tx.fr_bool (T : Tx P w K mg base) : mg "bool" = none := T.fr _ (T.c.d.fact 11 rfl)
theorem Tx.fr_int (T : Tx P w K mg base) : mg "int" = none := T.fr _ (T.c.d.fact 12 rfl)
theorem Tx.gl_BadTie (T : Tx P w K mg base) : mg "BadTie" = some (.ref (He.ga K "BadTie")) := T.gl _ (T.c.d.fact 13 rfl)
theorem Tx.gl_BadPlace (T : Tx P w K mg base) : mg "BadPlace" = some (.ref (He.ga K "BadPlace")) := T.gl _ (T.c.d.fact 14 rfl)
theorem Tx.gl_BadWeb (T : Tx P w K mg base) : mg "BadWeb" = some (.ref (He.ga K "BadWeb")) := T.gl _ (T.c.d.fact 15 rfl)
theorem Tx.gl_BadSet (T : Tx P w K mg base) : mg "BadSet" = some (.ref (He.ga K "BadSet")) := T.gl _ (T.c.d.fact 16 rfl)
theorem Tx.gl_NoFlow (T : Tx P w K mg base) : mg "NoFlow" = some (.ref (He.ga K "NoFlow")) := T.gl _ (T.c.d.fact 17 rfl)
theorem Tx.gl_BadRest (T : Tx P w K mg base) : mg "BadRest" = some (.ref (He.ga K "BadRest")) := T.gl _ (T.c.d.fact 18 rfl)
theorem Tx.gl_BadFlow (T : Tx P w K mg base) : mg "BadFlow" = some (.ref (He.ga K "BadFlow")) := T.gl _ (T.c.d.fact 19 rfl)
theorem Tx.gl_BadDeed (T : Tx P w K mg base) : mg "BadDeed" = some (.ref (He.ga K "BadDeed")) := T.gl _ (T.c.d.fact 20 rfl)
theorem Tx.gl_BadText (T : Tx P w K mg base) : mg "BadText" = some (.ref (He.ga K "BadText")) := T.gl _ (T.c.d.fact 21 rfl)
theorem Tx.gl_BadPaper (T : Tx P w K mg base) : mg "BadPaper" = some (.ref (He.ga K "BadPaper")) := T.gl _ (T.c.d.fact 22 rfl)
theorem Tx.fr_ValueError (T : Tx P w K mg base) : mg "ValueError" = none := T.fr _ (T.c.d.fact 23 rfl)
theorem Tx.gl_FlowError (T : Tx P w K mg base) : mg "FlowError" = some (.ref (He.ga K "FlowError")) := T.gl _ (T.c.d.fact 24 rfl)
theorem Tx.fr_abs (T : Tx P w K mg base) : mg "abs" = none := T.fr _ (T.c.d.fact 25 rfl)
theorem Tx.fr_range (T : Tx P w K mg base) : mg "range" = none := T.fr _ (T.c.d.fact 26 rfl)
theorem Tx.fr_sum (T : Tx P w K mg base) : mg "sum" = none := T.fr _ (T.c.d.fact 39 rfl)
theorem Tx.gi_MOST_TIES (T : Tx P w K mg base) : ∃ t, mg "MOST_TIES" = some (.int 40 t) := T.gi _ _ (T.c.d.fact 40 rfl)
theorem Tx.gi_MOST_PLACES (T : Tx P w K mg base) : ∃ t, mg "MOST_PLACES" = some (.int 20 t) := T.gi _ _ (T.c.d.fact 41 rfl)
theorem Tx.ex_BadWeb (T : Tx P w K mg base) : PySem.W.excIn K (He.ga K "BadWeb") He.veBase "ValueError.__new__" = true ∧ PySem.W.keepIn K (.ref (He.ga K "BadWeb")) = true ∧ PySem.W.subIn K (.ref (He.ga K "BadWeb")) (.type "BaseException") = some true ∧ PySem.W.typeIn K (.ref (He.ga K "BadWeb")) = some (.type "type") := He.exc_ok (T.c.d.fact 42 rfl)
theorem Tx.fr_tuple (T : Tx P w K mg base) : mg "tuple" = none := T.fr _ (T.c.d.fact 43 rfl)
theorem Tx.na_many (T : Tx P w K mg base) : NoAttr K (He.ga K "Web") "many" := He.noat_ok (T.c.d.fact 45 rfl)
theorem Tx.gl_Web (T : Tx P w K mg base) : mg "Web" = some (.ref (He.ga K "Web")) := T.gl _ (T.c.d.fact 46 rfl)
theorem Tx.gl_come_to (T : Tx P w K mg base) : mg "come_to" = some (.ref (He.ga K "come_to")) := T.gl _ (T.c.d.fact 47 rfl)
theorem Tx.gl_gathered (T : Tx P w K mg base) : mg "gathered" = some (.ref (He.ga K "gathered")) := T.gl _ (T.c.d.fact 48 rfl)
theorem Tx.gl_made_one (T : Tx P w K mg base) : mg "made_one" = some (.ref (He.ga K "made_one")) := T.gl _ (T.c.d.fact 49 rfl)
theorem Tx.gl_whirls_in (T : Tx P w K mg base) : mg "whirls_in" = some (.ref (He.ga K "whirls_in")) := T.gl _ (T.c.d.fact 50 rfl)
theorem Tx.gl_how_many_whirls (T : Tx P w K mg base) : mg "how_many_whirls" = some (.ref (He.ga K "how_many_whirls")) := T.gl _ (T.c.d.fact 51 rfl)
theorem Tx.gl__law_cell (T : Tx P w K mg base) : mg "_law_cell" = some (.ref (He.ga K "_law_cell")) := T.gl _ (T.c.d.fact 52 rfl)
theorem Tx.gl__law_whole (T : Tx P w K mg base) : mg "_law_whole" = some (.ref (He.ga K "_law_whole")) := T.gl _ (T.c.d.fact 53 rfl)
theorem Tx.gl__law_alone (T : Tx P w K mg base) : mg "_law_alone" = some (.ref (He.ga K "_law_alone")) := T.gl _ (T.c.d.fact 54 rfl)
theorem Tx.gl__law_ends (T : Tx P w K mg base) : mg "_law_ends" = some (.ref (He.ga K "_law_ends")) := T.gl _ (T.c.d.fact 55 rfl)
theorem Tx.gl__law_drawn (T : Tx P w K mg base) : mg "_law_drawn" = some (.ref (He.ga K "_law_drawn")) := T.gl _ (T.c.d.fact 56 rfl)
theorem Tx.gl__law_led_ears (T : Tx P w K mg base) : mg "_law_led_ears" = some (.ref (He.ga K "_law_led_ears")) := T.gl _ (T.c.d.fact 57 rfl)
theorem Tx.gl__law_come (T : Tx P w K mg base) : mg "_law_come" = some (.ref (He.ga K "_law_come")) := T.gl _ (T.c.d.fact 58 rfl)
theorem Tx.gl__law_whirl (T : Tx P w K mg base) : mg "_law_whirl" = some (.ref (He.ga K "_law_whirl")) := T.gl _ (T.c.d.fact 59 rfl)
theorem Tx.gl__law_turns (T : Tx P w K mg base) : mg "_law_turns" = some (.ref (He.ga K "_law_turns")) := T.gl _ (T.c.d.fact 60 rfl)
theorem Tx.gl__law_refused (T : Tx P w K mg base) : mg "_law_refused" = some (.ref (He.ga K "_law_refused")) := T.gl _ (T.c.d.fact 61 rfl)
theorem Tx.gl__law_is (T : Tx P w K mg base) : mg "_law_is" = some (.ref (He.ga K "_law_is")) := T.gl _ (T.c.d.fact 62 rfl)
theorem Tx.iso_BadTie (T : Tx P w K mg base) : BW.IsoT K (.ref (He.ga K "BadTie")) [(2, false), (3, false), (4, false), (5, false), (6, true), (7, false), (8, false), (10, false), (11, false)] := isoT_exc (c := 2) (tKit_ok (u := uOwn "BadTie") (T.c.ex 0)) (tEx_ok (T.c.ex 1)) (isoT_exc (c := 3) (tKit_ok (u := uOwn "BadTie") (T.c.ex 2)) (tEx_ok (T.c.ex 3)) (isoT_exc (c := 4) (tKit_ok (u := uOwn "BadTie") (T.c.ex 4)) (tEx_ok (T.c.ex 5)) (isoT_exc (c := 5) (tKit_ok (u := uOwn "BadTie") (T.c.ex 6)) (tEx_ok (T.c.ex 7)) (isoT_exc (c := 6) (tKit_ok (u := uOwn "BadTie") (T.c.ex 8)) (tEx_ok (T.c.ex 9)) (isoT_exc (c := 7) (tKit_ok (u := uOwn "BadTie") (T.c.ex 10)) (tEx_ok (T.c.ex 11)) (isoT_exc (c := 8) (tKit_ok (u := uOwn "BadTie") (T.c.ex 12)) (tEx_ok (T.c.ex 13)) (isoT_exc (c := 10) (tKit_ok (u := uOwn "BadTie") (T.c.ex 14)) (tEx_ok (T.c.ex 15)) (isoT_exc (c := 11) (tKit_ok (u := uOwn "BadTie") (T.c.ex 16)) (tEx_ok (T.c.ex 17)) (isoT_nil)))))))))
theorem Tx.iso_BadPlace (T : Tx P w K mg base) : BW.IsoT K (.ref (He.ga K "BadPlace")) [(2, false), (3, false), (4, false), (5, true), (6, false), (7, false), (8, false), (10, false), (11, false)] := isoT_exc (c := 2) (tKit_ok (u := uOwn "BadPlace") (T.c.ex 18)) (tEx_ok (T.c.ex 1)) (isoT_exc (c := 3) (tKit_ok (u := uOwn "BadPlace") (T.c.ex 19)) (tEx_ok (T.c.ex 3)) (isoT_exc (c := 4) (tKit_ok (u := uOwn "BadPlace") (T.c.ex 20)) (tEx_ok (T.c.ex 5)) (isoT_exc (c := 5) (tKit_ok (u := uOwn "BadPlace") (T.c.ex 21)) (tEx_ok (T.c.ex 7)) (isoT_exc (c := 6) (tKit_ok (u := uOwn "BadPlace") (T.c.ex 22)) (tEx_ok (T.c.ex 9)) (isoT_exc (c := 7) (tKit_ok (u := uOwn "BadPlace") (T.c.ex 23)) (tEx_ok (T.c.ex 11)) (isoT_exc (c := 8) (tKit_ok (u := uOwn "BadPlace") (T.c.ex 24)) (tEx_ok (T.c.ex 13)) (isoT_exc (c := 10) (tKit_ok (u := uOwn "BadPlace") (T.c.ex 25)) (tEx_ok (T.c.ex 15)) (isoT_exc (c := 11) (tKit_ok (u := uOwn "BadPlace") (T.c.ex 26)) (tEx_ok (T.c.ex 17)) (isoT_nil)))))))))
theorem Tx.iso_TooMany (T : Tx P w K mg base) : BW.IsoT K (.ref (He.ga K "TooMany")) [(2, false), (3, false), (4, true), (5, false), (6, false), (7, false), (8, false), (10, false), (11, false)] := isoT_exc (c := 2) (tKit_ok (u := uOwn "TooMany") (T.c.ex 27)) (tEx_ok (T.c.ex 1)) (isoT_exc (c := 3) (tKit_ok (u := uOwn "TooMany") (T.c.ex 28)) (tEx_ok (T.c.ex 3)) (isoT_exc (c := 4) (tKit_ok (u := uOwn "TooMany") (T.c.ex 29)) (tEx_ok (T.c.ex 5)) (isoT_exc (c := 5) (tKit_ok (u := uOwn "TooMany") (T.c.ex 30)) (tEx_ok (T.c.ex 7)) (isoT_exc (c := 6) (tKit_ok (u := uOwn "TooMany") (T.c.ex 31)) (tEx_ok (T.c.ex 9)) (isoT_exc (c := 7) (tKit_ok (u := uOwn "TooMany") (T.c.ex 32)) (tEx_ok (T.c.ex 11)) (isoT_exc (c := 8) (tKit_ok (u := uOwn "TooMany") (T.c.ex 33)) (tEx_ok (T.c.ex 13)) (isoT_exc (c := 10) (tKit_ok (u := uOwn "TooMany") (T.c.ex 34)) (tEx_ok (T.c.ex 15)) (isoT_exc (c := 11) (tKit_ok (u := uOwn "TooMany") (T.c.ex 35)) (tEx_ok (T.c.ex 17)) (isoT_nil)))))))))
theorem Tx.iso_BadWeb (T : Tx P w K mg base) : BW.IsoT K (.ref (He.ga K "BadWeb")) [(2, false), (3, true), (4, false), (5, false), (6, false), (7, false), (8, false), (10, false), (11, false)] := isoT_exc (c := 2) (tKit_ok (u := uOwn "BadWeb") (T.c.ex 36)) (tEx_ok (T.c.ex 1)) (isoT_exc (c := 3) (tKit_ok (u := uOwn "BadWeb") (T.c.ex 37)) (tEx_ok (T.c.ex 3)) (isoT_exc (c := 4) (tKit_ok (u := uOwn "BadWeb") (T.c.ex 38)) (tEx_ok (T.c.ex 5)) (isoT_exc (c := 5) (tKit_ok (u := uOwn "BadWeb") (T.c.ex 39)) (tEx_ok (T.c.ex 7)) (isoT_exc (c := 6) (tKit_ok (u := uOwn "BadWeb") (T.c.ex 40)) (tEx_ok (T.c.ex 9)) (isoT_exc (c := 7) (tKit_ok (u := uOwn "BadWeb") (T.c.ex 41)) (tEx_ok (T.c.ex 11)) (isoT_exc (c := 8) (tKit_ok (u := uOwn "BadWeb") (T.c.ex 42)) (tEx_ok (T.c.ex 13)) (isoT_exc (c := 10) (tKit_ok (u := uOwn "BadWeb") (T.c.ex 43)) (tEx_ok (T.c.ex 15)) (isoT_exc (c := 11) (tKit_ok (u := uOwn "BadWeb") (T.c.ex 44)) (tEx_ok (T.c.ex 17)) (isoT_nil)))))))))
theorem Tx.iso_BadSet (T : Tx P w K mg base) : BW.IsoT K (.ref (He.ga K "BadSet")) [(2, false), (3, false), (4, false), (5, false), (6, false), (7, false), (8, false), (10, true), (11, false)] := isoT_exc (c := 2) (tKit_ok (u := uOwn "BadSet") (T.c.ex 45)) (tEx_ok (T.c.ex 1)) (isoT_exc (c := 3) (tKit_ok (u := uOwn "BadSet") (T.c.ex 46)) (tEx_ok (T.c.ex 3)) (isoT_exc (c := 4) (tKit_ok (u := uOwn "BadSet") (T.c.ex 47)) (tEx_ok (T.c.ex 5)) (isoT_exc (c := 5) (tKit_ok (u := uOwn "BadSet") (T.c.ex 48)) (tEx_ok (T.c.ex 7)) (isoT_exc (c := 6) (tKit_ok (u := uOwn "BadSet") (T.c.ex 49)) (tEx_ok (T.c.ex 9)) (isoT_exc (c := 7) (tKit_ok (u := uOwn "BadSet") (T.c.ex 50)) (tEx_ok (T.c.ex 11)) (isoT_exc (c := 8) (tKit_ok (u := uOwn "BadSet") (T.c.ex 51)) (tEx_ok (T.c.ex 13)) (isoT_exc (c := 10) (tKit_ok (u := uOwn "BadSet") (T.c.ex 52)) (tEx_ok (T.c.ex 15)) (isoT_exc (c := 11) (tKit_ok (u := uOwn "BadSet") (T.c.ex 53)) (tEx_ok (T.c.ex 17)) (isoT_nil)))))))))
theorem Tx.iso_NoFlow (T : Tx P w K mg base) : BW.IsoT K (.ref (He.ga K "NoFlow")) [(2, false), (3, false), (4, false), (5, false), (6, false), (7, false), (8, false), (10, false), (11, false)] := isoT_exc (c := 2) (tKit_ok (u := uOwn "NoFlow") (T.c.ex 54)) (tEx_ok (T.c.ex 1)) (isoT_exc (c := 3) (tKit_ok (u := uOwn "NoFlow") (T.c.ex 55)) (tEx_ok (T.c.ex 3)) (isoT_exc (c := 4) (tKit_ok (u := uOwn "NoFlow") (T.c.ex 56)) (tEx_ok (T.c.ex 5)) (isoT_exc (c := 5) (tKit_ok (u := uOwn "NoFlow") (T.c.ex 57)) (tEx_ok (T.c.ex 7)) (isoT_exc (c := 6) (tKit_ok (u := uOwn "NoFlow") (T.c.ex 58)) (tEx_ok (T.c.ex 9)) (isoT_exc (c := 7) (tKit_ok (u := uOwn "NoFlow") (T.c.ex 59)) (tEx_ok (T.c.ex 11)) (isoT_exc (c := 8) (tKit_ok (u := uOwn "NoFlow") (T.c.ex 60)) (tEx_ok (T.c.ex 13)) (isoT_exc (c := 10) (tKit_ok (u := uOwn "NoFlow") (T.c.ex 61)) (tEx_ok (T.c.ex 15)) (isoT_exc (c := 11) (tKit_ok (u := uOwn "NoFlow") (T.c.ex 62)) (tEx_ok (T.c.ex 17)) (isoT_nil)))))))))
theorem Tx.iso_BadRest (T : Tx P w K mg base) : BW.IsoT K (.ref (He.ga K "BadRest")) [(2, false), (3, false), (4, false), (5, false), (6, false), (7, false), (8, true), (10, false), (11, false)] := isoT_exc (c := 2) (tKit_ok (u := uOwn "BadRest") (T.c.ex 63)) (tEx_ok (T.c.ex 1)) (isoT_exc (c := 3) (tKit_ok (u := uOwn "BadRest") (T.c.ex 64)) (tEx_ok (T.c.ex 3)) (isoT_exc (c := 4) (tKit_ok (u := uOwn "BadRest") (T.c.ex 65)) (tEx_ok (T.c.ex 5)) (isoT_exc (c := 5) (tKit_ok (u := uOwn "BadRest") (T.c.ex 66)) (tEx_ok (T.c.ex 7)) (isoT_exc (c := 6) (tKit_ok (u := uOwn "BadRest") (T.c.ex 67)) (tEx_ok (T.c.ex 9)) (isoT_exc (c := 7) (tKit_ok (u := uOwn "BadRest") (T.c.ex 68)) (tEx_ok (T.c.ex 11)) (isoT_exc (c := 8) (tKit_ok (u := uOwn "BadRest") (T.c.ex 69)) (tEx_ok (T.c.ex 13)) (isoT_exc (c := 10) (tKit_ok (u := uOwn "BadRest") (T.c.ex 70)) (tEx_ok (T.c.ex 15)) (isoT_exc (c := 11) (tKit_ok (u := uOwn "BadRest") (T.c.ex 71)) (tEx_ok (T.c.ex 17)) (isoT_nil)))))))))
theorem Tx.iso_BadFlow (T : Tx P w K mg base) : BW.IsoT K (.ref (He.ga K "BadFlow")) [(2, false), (3, false), (4, false), (5, false), (6, false), (7, true), (8, false), (10, false), (11, false)] := isoT_exc (c := 2) (tKit_ok (u := uOwn "BadFlow") (T.c.ex 72)) (tEx_ok (T.c.ex 1)) (isoT_exc (c := 3) (tKit_ok (u := uOwn "BadFlow") (T.c.ex 73)) (tEx_ok (T.c.ex 3)) (isoT_exc (c := 4) (tKit_ok (u := uOwn "BadFlow") (T.c.ex 74)) (tEx_ok (T.c.ex 5)) (isoT_exc (c := 5) (tKit_ok (u := uOwn "BadFlow") (T.c.ex 75)) (tEx_ok (T.c.ex 7)) (isoT_exc (c := 6) (tKit_ok (u := uOwn "BadFlow") (T.c.ex 76)) (tEx_ok (T.c.ex 9)) (isoT_exc (c := 7) (tKit_ok (u := uOwn "BadFlow") (T.c.ex 77)) (tEx_ok (T.c.ex 11)) (isoT_exc (c := 8) (tKit_ok (u := uOwn "BadFlow") (T.c.ex 78)) (tEx_ok (T.c.ex 13)) (isoT_exc (c := 10) (tKit_ok (u := uOwn "BadFlow") (T.c.ex 79)) (tEx_ok (T.c.ex 15)) (isoT_exc (c := 11) (tKit_ok (u := uOwn "BadFlow") (T.c.ex 80)) (tEx_ok (T.c.ex 17)) (isoT_nil)))))))))
theorem Tx.iso_BadDeed (T : Tx P w K mg base) : BW.IsoT K (.ref (He.ga K "BadDeed")) [(2, false), (3, false), (4, false), (5, false), (6, false), (7, false), (8, false), (10, false), (11, false)] := isoT_exc (c := 2) (tKit_ok (u := uOwn "BadDeed") (T.c.ex 81)) (tEx_ok (T.c.ex 1)) (isoT_exc (c := 3) (tKit_ok (u := uOwn "BadDeed") (T.c.ex 82)) (tEx_ok (T.c.ex 3)) (isoT_exc (c := 4) (tKit_ok (u := uOwn "BadDeed") (T.c.ex 83)) (tEx_ok (T.c.ex 5)) (isoT_exc (c := 5) (tKit_ok (u := uOwn "BadDeed") (T.c.ex 84)) (tEx_ok (T.c.ex 7)) (isoT_exc (c := 6) (tKit_ok (u := uOwn "BadDeed") (T.c.ex 85)) (tEx_ok (T.c.ex 9)) (isoT_exc (c := 7) (tKit_ok (u := uOwn "BadDeed") (T.c.ex 86)) (tEx_ok (T.c.ex 11)) (isoT_exc (c := 8) (tKit_ok (u := uOwn "BadDeed") (T.c.ex 87)) (tEx_ok (T.c.ex 13)) (isoT_exc (c := 10) (tKit_ok (u := uOwn "BadDeed") (T.c.ex 88)) (tEx_ok (T.c.ex 15)) (isoT_exc (c := 11) (tKit_ok (u := uOwn "BadDeed") (T.c.ex 89)) (tEx_ok (T.c.ex 17)) (isoT_nil)))))))))
theorem Tx.iso_BadText (T : Tx P w K mg base) : BW.IsoT K (.ref (He.ga K "BadText")) [(2, false), (3, false), (4, false), (5, false), (6, false), (7, false), (8, false), (10, false), (11, false)] := isoT_exc (c := 2) (tKit_ok (u := uOwn "BadText") (T.c.ex 90)) (tEx_ok (T.c.ex 1)) (isoT_exc (c := 3) (tKit_ok (u := uOwn "BadText") (T.c.ex 91)) (tEx_ok (T.c.ex 3)) (isoT_exc (c := 4) (tKit_ok (u := uOwn "BadText") (T.c.ex 92)) (tEx_ok (T.c.ex 5)) (isoT_exc (c := 5) (tKit_ok (u := uOwn "BadText") (T.c.ex 93)) (tEx_ok (T.c.ex 7)) (isoT_exc (c := 6) (tKit_ok (u := uOwn "BadText") (T.c.ex 94)) (tEx_ok (T.c.ex 9)) (isoT_exc (c := 7) (tKit_ok (u := uOwn "BadText") (T.c.ex 95)) (tEx_ok (T.c.ex 11)) (isoT_exc (c := 8) (tKit_ok (u := uOwn "BadText") (T.c.ex 96)) (tEx_ok (T.c.ex 13)) (isoT_exc (c := 10) (tKit_ok (u := uOwn "BadText") (T.c.ex 97)) (tEx_ok (T.c.ex 15)) (isoT_exc (c := 11) (tKit_ok (u := uOwn "BadText") (T.c.ex 98)) (tEx_ok (T.c.ex 17)) (isoT_nil)))))))))
theorem Tx.iso_BadPaper (T : Tx P w K mg base) : BW.IsoT K (.ref (He.ga K "BadPaper")) [(2, false), (3, false), (4, false), (5, false), (6, false), (7, false), (8, false), (10, false), (11, true)] := isoT_exc (c := 2) (tKit_ok (u := uOwn "BadPaper") (T.c.ex 99)) (tEx_ok (T.c.ex 1)) (isoT_exc (c := 3) (tKit_ok (u := uOwn "BadPaper") (T.c.ex 100)) (tEx_ok (T.c.ex 3)) (isoT_exc (c := 4) (tKit_ok (u := uOwn "BadPaper") (T.c.ex 101)) (tEx_ok (T.c.ex 5)) (isoT_exc (c := 5) (tKit_ok (u := uOwn "BadPaper") (T.c.ex 102)) (tEx_ok (T.c.ex 7)) (isoT_exc (c := 6) (tKit_ok (u := uOwn "BadPaper") (T.c.ex 103)) (tEx_ok (T.c.ex 9)) (isoT_exc (c := 7) (tKit_ok (u := uOwn "BadPaper") (T.c.ex 104)) (tEx_ok (T.c.ex 11)) (isoT_exc (c := 8) (tKit_ok (u := uOwn "BadPaper") (T.c.ex 105)) (tEx_ok (T.c.ex 13)) (isoT_exc (c := 10) (tKit_ok (u := uOwn "BadPaper") (T.c.ex 106)) (tEx_ok (T.c.ex 15)) (isoT_exc (c := 11) (tKit_ok (u := uOwn "BadPaper") (T.c.ex 107)) (tEx_ok (T.c.ex 17)) (isoT_nil)))))))))
theorem Tx.iso_ValueError (T : Tx P w K mg base) : BW.IsoT K (.type "ValueError") [(2, true), (3, true), (4, true), (5, true), (6, true), (7, true), (8, true), (10, true), (11, true)] := isoT_exc (c := 2) (tKit_ok (u := uTy "ValueError") (T.c.ex 108)) (tEx_ok (T.c.ex 1)) (isoT_exc (c := 3) (tKit_ok (u := uTy "ValueError") (T.c.ex 109)) (tEx_ok (T.c.ex 3)) (isoT_exc (c := 4) (tKit_ok (u := uTy "ValueError") (T.c.ex 110)) (tEx_ok (T.c.ex 5)) (isoT_exc (c := 5) (tKit_ok (u := uTy "ValueError") (T.c.ex 111)) (tEx_ok (T.c.ex 7)) (isoT_exc (c := 6) (tKit_ok (u := uTy "ValueError") (T.c.ex 112)) (tEx_ok (T.c.ex 9)) (isoT_exc (c := 7) (tKit_ok (u := uTy "ValueError") (T.c.ex 113)) (tEx_ok (T.c.ex 11)) (isoT_exc (c := 8) (tKit_ok (u := uTy "ValueError") (T.c.ex 114)) (tEx_ok (T.c.ex 13)) (isoT_exc (c := 10) (tKit_ok (u := uTy "ValueError") (T.c.ex 115)) (tEx_ok (T.c.ex 15)) (isoT_exc (c := 11) (tKit_ok (u := uTy "ValueError") (T.c.ex 116)) (tEx_ok (T.c.ex 17)) (isoT_nil)))))))))
theorem Tx.iso_FlowError (T : Tx P w K mg base) : BW.IsoT K (.ref (He.ga K "FlowError")) [(2, true), (3, true), (4, true), (5, true), (6, true), (7, true), (8, true), (10, true), (11, true)] := isoT_exc (c := 2) (tKit_ok (u := uOwn "FlowError") (T.c.ex 117)) (tEx_ok (T.c.ex 1)) (isoT_exc (c := 3) (tKit_ok (u := uOwn "FlowError") (T.c.ex 118)) (tEx_ok (T.c.ex 3)) (isoT_exc (c := 4) (tKit_ok (u := uOwn "FlowError") (T.c.ex 119)) (tEx_ok (T.c.ex 5)) (isoT_exc (c := 5) (tKit_ok (u := uOwn "FlowError") (T.c.ex 120)) (tEx_ok (T.c.ex 7)) (isoT_exc (c := 6) (tKit_ok (u := uOwn "FlowError") (T.c.ex 121)) (tEx_ok (T.c.ex 9)) (isoT_exc (c := 7) (tKit_ok (u := uOwn "FlowError") (T.c.ex 122)) (tEx_ok (T.c.ex 11)) (isoT_exc (c := 8) (tKit_ok (u := uOwn "FlowError") (T.c.ex 123)) (tEx_ok (T.c.ex 13)) (isoT_exc (c := 10) (tKit_ok (u := uOwn "FlowError") (T.c.ex 124)) (tEx_ok (T.c.ex 15)) (isoT_exc (c := 11) (tKit_ok (u := uOwn "FlowError") (T.c.ex 125)) (tEx_ok (T.c.ex 17)) (isoT_nil)))))))))
theorem Tx.exm_FlowError (T : Tx P w K mg base) : BW.ExmT K (.ref (He.ga K "FlowError")) [(2, true), (3, true), (4, true), (5, true), (6, true), (7, true), (8, true), (9, true), (10, true), (11, true), (12, true), (13, true)] := exmT_cons (k := 2) (He.exm_ok (T.c.d.fact 38 rfl)) (exmT_cons (k := 3) (He.exm_ok (T.c.d.fact 37 rfl)) (exmT_cons (k := 4) (He.exm_ok (T.c.d.fact 36 rfl)) (exmT_cons (k := 5) (He.exm_ok (T.c.d.fact 35 rfl)) (exmT_cons (k := 6) (He.exm_ok (T.c.d.fact 34 rfl)) (exmT_cons (k := 7) (He.exm_ok (T.c.d.fact 33 rfl)) (exmT_cons (k := 8) (He.exm_ok (T.c.d.fact 32 rfl)) (exmT_cons (k := 9) (He.exm_ok (T.c.d.fact 31 rfl)) (exmT_cons (k := 10) (He.exm_ok (T.c.d.fact 30 rfl)) (exmT_cons (k := 11) (He.exm_ok (T.c.d.fact 29 rfl)) (exmT_cons (k := 12) (He.exm_ok (T.c.d.fact 28 rfl)) (exmT_cons (k := 13) (He.exm_ok (T.c.d.fact 27 rfl)) (exmT_nil))))))))))))
theorem Tx.web (T : Tx P w K mg base) : BW.WebC P w K mg base 1 := by
  obtain ⟨fd, F0⟩ := T.c.d.def_ 17 rfl
  refine ⟨_, fd, He.mkr_ok (T.c.d.fact 44 rfl), BW.web_init (k := 0) F0 sc_Web___init__ rfl T.cl_Web T.na_many T.na_ties fun cdv A outer s H E hr tk hp => ⟨fun A0 H0 => ?_, fun A0 H0 => ?_, fun A0 H0 => ?_, fun A0 H0 => ?_⟩, T.gl_Web, F0.bindsN fun _ _ _ _ _ _ us hl => match us, hl with | [_, _, _], _ => rfl⟩
  · exact vs_if (vt_w (vw_or (vt_lt (vb_of_ve (ve_var 1)) (vb_of_ve (ve_int))) (vw_or (vt_gt (vb_of_ve (ve_var 1)) (vb_of_ve (ve_gi rfl T.gi_MOST_PLACES))) (vw_or1 (vt_gt (vb_of_ve (ve_blt call_len gc_len nea_len T.fr_len (by decide +kernel) (va_lo (vb_of_ve (ve_var 2)) (va_nil)))) (vb_of_ve (ve_gi rfl T.gi_MOST_TIES))))))) (vss_one (vs_raise (cc := 4) rfl tk T.ex_TooMany.1 T.gl_TooMany T.ex_TooMany.2.1 T.ex_TooMany.2.2.1 T.ex_TooMany.2.2.2)) (vss_nil)
  · exact vs_for hp rfl (vi_seq (ve_var 2)) (vg_name 3 sc_Web___init__.nd) (vss_one (vs_for hp rfl (vi_seq (ve_var 3)) (vg_name 4 sc_Web___init__.nd) (vss_one (vs_if (vt_w (vw_or (vt_lt (vb_of_ve (ve_var 4)) (vb_of_ve (ve_int))) (vw_or1 (vt_ge (vb_of_ve (ve_var 4)) (vb_of_ve (ve_var 1)))))) (vss_one (vs_raise (cc := 3) rfl tk T.ex_BadWeb.1 T.gl_BadWeb T.ex_BadWeb.2.1 T.ex_BadWeb.2.2.1 T.ex_BadWeb.2.2.2)) (vss_nil)))))
  · exact ps_fld (ve_var 0) (ve_var 1) rfl
  · exact ps_fld (ve_var 0) (ve_tupleC T.fr_tuple (vl_of_vf (vf_lc (own := [("ends", 3)]) rfl sc_Web___init__.nd (vi_seq (ve_var 2)) (blkOk_by (own := [("ends", 3)]) (N := n_Web___init__) (sc := defScope s_Web___init__) (by decide +kernel)) (fun _ _ _ _ _ => vg_name 3 sc_Web___init__.nd) (fun _ _ _ _ _ => vts_nil) (fun _ _ _ _ _ => ve_tup (va_st (ve_ix (ve_var 3) (ve_int)) (va_st (ve_ix (ve_var 3) (ve_int)) (va_nil))))))) rfl
theorem Tx.ok_come_to (T : Tx P w K mg base) : CalN P w K mg base "come_to" 1 [true, true] m_come_to := by
  obtain ⟨fd, F0⟩ := T.c.d.def_ 0 rfl
  exact ⟨_, fd, ["ways", "place"], fn_new (k := 0) F0 sc_come_to rfl (by decide) fun cdv A outer s H I E hr tk hp => by
    exact vss_cons (vs_setM 2 sc_come_to.nd (vf_lst (va_st (ve_var 1) (va_nil))))
      (vss_cons (vs_set 3 sc_come_to.nd (ve_int))
      (vss_cons (vs_while 1000 hp (vt_lt (vb_of_ve (ve_var 3)) (vb_of_ve (ve_blt call_len gc_len nea_len T.fr_len (by decide +kernel) (va_lo (vb_var 2) (va_nil))))) (vss_cons (vs_for hp rfl (vi_seq (ve_var 0)) (vg_tup rfl (vgs_cons (vg_name 4 sc_come_to.nd) (vgs_cons (vg_name 5 sc_come_to.nd) (vgs_nil)))) (vss_one (vs_if (vt_w (vw_and (vt_eq hr.units (vb_of_ve (ve_var 4)) (vb_of_ve (ve_ixC (vl_var 2) (ve_var 3)))) (vw_and1 (vt_nin (vb_of_ve (ve_var 5)) (vb_var 2))))) (vss_one (vs_mut 2 PySem.F.slot_list_append PySem.F.type_list_append mt_append mo_app (ve_var 5))) (vss_nil))))
      (vss_one (vs_aug 3 sc_come_to.nd ip_add (ve_int)))))
      (vss_one (vs_retM 2)))), T.gl_come_to, F0.kp, F0.bindsN fun _ _ _ _ _ _ us hl => match us, hl with | [_, _], _ => rfl⟩

theorem Tx.ok_gathered (T : Tx P w K mg base) : CalGa P w K mg base "gathered" 3 := by
  obtain ⟨fd, F0⟩ := T.c.d.def_ 1 rfl
  exact ⟨_, fd, _, fn_ga (k := 2) F0 sc_gathered rfl fun cdv A outer s H E hr tk hp => pss_ga (W := WB E) rfl (fun _ _ => vs_set 2 sc_gathered.nd (ve_int)) (fun _ _ => vi_seq (ve_at 0 T.cl_Web T.na_ties (ve_var 0))) (fun _ _ => vs_set 4 sc_gathered.nd (ve_tup (va_st (ve_blt (cr_minT rfl hr.units) gc_minT nea_minT T.fr_min (by decide +kernel) (va_lo (vb_of_ve (ve_var 3)) (va_nil))) (va_st (ve_blt (cr_maxT rfl hr.units) gc_maxT nea_maxT T.fr_max (by decide +kernel) (va_lo (vb_of_ve (ve_var 3)) (va_nil))) (va_nil))))) (fun _ _ => vt_eq hr.units (vb_of_ve (ve_ix (ve_var 4) (ve_int))) (vb_of_ve (ve_ix (ve_var 4) (ve_int)))) (fun _ _ => vs_aug 2 sc_gathered.nd ip_add (ve_int)) (fun _ _ => ve_int) (fun _ _ => ve_int) hr.units hp rfl, T.gl_gathered, F0.kp, F0.bindsN fun _ _ _ _ _ _ us hl => match us, hl with | [_], _ => rfl⟩

theorem Tx.ok_made_one (T : Tx P w K mg base) : CalMo P w K mg base "made_one" 3 := by
  obtain ⟨fd, F0⟩ := T.c.d.def_ 2 rfl
  exact ⟨_, fd, _, fn_mo (k := 2) F0 sc_made_one rfl fun cdv A outer s H E hr tk hp => pss_mo (W := WB E) rfl (fun _ _ a kvs hA => vi_itemZ hA 0) (fun _ _ => vg_tup rfl (vgs_cons (vg_name 4 sc_made_one.nd) (vgs_cons (vg_name 5 sc_made_one.nd) (vgs_nil)))) (fun _ _ => vs_setLcI 6 (own := [("place", 8)]) rfl sc_made_one.nd (vi_seq (ve_var 4)) (blkOk_by (own := [("place", 8)]) (N := n_made_one) (sc := defScope s_made_one) (by decide +kernel)) (fun _ _ _ _ _ => vg_name 8 sc_made_one.nd) (fun _ _ _ _ _ => vts_nil) (fun _ _ _ _ _ => ve_if (vt_eq hr.units (vb_of_ve (ve_var 8)) (vb_of_ve (ve_var 2))) (ve_var 1) (ve_var 8))) (fun _ _ => vs_set 7 sc_made_one.nd (ve_tup (va_st (ve_blt (cr_min rfl) gc_min nea_min T.fr_min (by decide +kernel) (va_lo (vb_of_ve (ve_var 6)) (va_nil))) (va_st (ve_blt (cr_max rfl) gc_max nea_max T.fr_max (by decide +kernel) (va_lo (vb_of_ve (ve_var 6)) (va_nil))) (va_nil))))) (fun _ _ => ve_int) hr.units hp rfl, T.gl_made_one, F0.kp, F0.bindsN fun _ _ _ _ _ _ us hl => match us, hl with | [_, _, _], _ => rfl⟩

theorem Tx.ok_whirls_in (T : Tx P w K mg base) : CalWh P w K mg base "whirls_in" 18 m_come_to 14 := by
  obtain ⟨fd, F0⟩ := T.c.d.def_ 3 rfl
  have hb := F0.bindsN (ps := ["counts"]) fun _ _ _ _ _ _ us hl => match us, hl with | [_], _ => rfl
  exact ⟨_, fd, _, fn_wh (k := 4) F0 sc_whirls_in rfl T.gl_whirls_in F0.kp hb (fun n cdv A outer s H E hr0 tk hp CW => by
    have hr := hr0.mono (Nat.le_add_right 4 n)
    exact pss_wh rfl (fun _ _ a kvs hA => vs_if (vt_eq hr.units (vb_of_ve (ve_lenZ hA 0 T.fr_len)) (vb_of_ve (ve_int))) (vss_one (vs_ret (ve_int))) (vss_nil)) (fun _ _ a kvs hA => vs_unp (ve_minZ hA 0 rfl hr.units T.fr_min) (vg_tup rfl (vgs_cons (vg_name 1 sc_whirls_in.nd) (vgs_cons (vg_name 2 sc_whirls_in.nd) (vgs_nil))))) (fun _ _ a kvs hA => vs_set 3 sc_whirls_in.nd (ve_shl (vb_of_ve (ve_int)) (vb_of_ve (ve_getZ hA 0 hr.units (ve_tup (va_st (ve_var 1) (va_st (ve_var 2) (va_nil)))) (fun _ _ => rfl))))) (fun _ _ => ve_tup (va_st (ve_var 1) (va_st (ve_var 2) (va_nil)))) (fun _ _ b ys hB => vss_cons (vs_set 5 sc_whirls_in.nd (ve_of_vf (vf_cat (vl_of_vf (vf_lkZ hB 4 rfl T.fr_list)) (vl_of_vf (vf_lc (own := [("pair", 6)]) rfl sc_whirls_in.nd (vi_keyZ hB 4) (blkOk_by (own := [("pair", 6)]) (N := n_whirls_in) (sc := defScope s_whirls_in) (by decide +kernel)) (fun _ _ _ _ _ => vg_name 6 sc_whirls_in.nd) (fun _ _ _ _ _ => vts_nil) (fun _ _ _ _ _ => ve_tup (va_st (ve_ix (ve_var 6) (ve_int)) (va_st (ve_ix (ve_var 6) (ve_int)) (va_nil)))))))))
      (vss_cons (vs_if (vt_in (vb_of_ve (ve_var 2)) (vb_of_ve (ve_of_vf (vf_cal T.ok_come_to hr tk (va_st (ve_var 5) (va_st (ve_var 1) (va_nil))))))) (vss_one (vs_ret (ve_add (ve_mul (ve_sub (vb_of_ve (ve_var 3)) (vb_of_ve (ve_int))) (ve_whm CW T.ok_made_one hr0 tk hB 4 1 2)) (ve_wh CW hr0 tk hB 4)))) (vss_nil))
      (vss_cons (vs_if (vt_eq hr.units (vb_of_ve (ve_var 3)) (vb_of_ve (ve_int))) (vss_one (vs_ret (ve_int))) (vss_nil))
      (vss_one (vs_ret (ve_mul (ve_sub (vb_of_ve (ve_var 3)) (vb_of_ve (ve_int))) (ve_whm CW T.ok_made_one hr0 tk hB 4 1 2))))))) hr.units T.fr_dict) 14, T.gl_whirls_in, F0.kp, hb⟩

theorem Tx.ok_how_many_whirls (T : Tx P w K mg base) : Cal P w K mg base "how_many_whirls" 19 [true] m_how_many_whirls := by
  obtain ⟨fd, F0⟩ := T.c.d.def_ 4 rfl
  exact ⟨_, fd, ["web"], fn_ok (k := 18) F0 sc_how_many_whirls rfl (by decide) fun cdv A outer s H I E hr tk hp => by
    exact vss_cons (vs_if (vt_gt (vb_of_ve (ve_blt call_len gc_len nea_len T.fr_len (by decide +kernel) (va_lo (vb_of_ve (ve_at 0 T.cl_Web T.na_ties (ve_var 0))) (va_nil)))) (vb_of_ve (ve_gi rfl T.gi_MOST_TRIED))) (vss_one (vs_raise (cc := 4) rfl tk T.ex_TooMany.1 T.gl_TooMany T.ex_TooMany.2.1 T.ex_TooMany.2.2.1 T.ex_TooMany.2.2.2)) (vss_nil))
      (vss_how rfl T.ok_gathered hr tk (fun _ _ a kvs hA => ve_mul (ve_shl (vb_of_ve (ve_int)) (vb_of_ve (ve_var 2))) (ve_wh T.ok_whirls_in hr tk hA 1)) (fun _ _ => vg_tup rfl (vgs_cons (vg_name 1 sc_how_many_whirls.nd) (vgs_cons (vg_name 2 sc_how_many_whirls.nd) (vgs_nil))))), T.gl_how_many_whirls, F0.kp, F0.bindsN fun _ _ _ _ _ _ us hl => match us, hl with | [_], _ => rfl⟩

theorem Tx.ok__law_cell (T : Tx P w K mg base) : Cal P w K mg base "_law_cell" 1 [true, true] m__law_cell := by
  obtain ⟨fd, F0⟩ := T.c.d.def_ 5 rfl
  exact ⟨_, fd, ["_law_script", "_law_k"], fn_ok (k := 0) F0 sc__law_cell rfl (by decide) fun cdv A outer s H I E hr tk hp => by
    exact vss_cons (vs_if (vt_lt (vb_of_ve (ve_var 1)) (vb_of_ve (ve_blt call_len gc_len nea_len T.fr_len (by decide +kernel) (va_lo (vb_of_ve (ve_var 0)) (va_nil))))) (vss_one (vs_ret (ve_ix (ve_var 0) (ve_var 1)))) (vss_nil))
      (vss_one (vs_ret (ve_int))), T.gl__law_cell, F0.kp, F0.bindsN fun _ _ _ _ _ _ us hl => match us, hl with | [_, _], _ => rfl⟩

theorem Tx.ok__law_whole (T : Tx P w K mg base) : Cal P w K mg base "_law_whole" 1 [true] m__law_whole := by
  obtain ⟨fd, F0⟩ := T.c.d.def_ 6 rfl
  exact ⟨_, fd, ["_law_found"], fn_ok (k := 0) F0 sc__law_whole rfl (by decide) fun cdv A outer s H I E hr tk hp => by
    exact vss_one (vs_ret (ve_and (vb_of_ve (ve_isi "int" T.fr_isinstance T.fr_int (by decide +kernel) (vb_of_ve (ve_var 0)) (by decide))) (vb_of_ve (ve_one (ve_not (vb_of_ve (ve_isi "bool" T.fr_isinstance T.fr_bool (by decide +kernel) (vb_of_ve (ve_var 0)) (by decide)))))))), T.gl__law_whole, F0.kp, F0.bindsN fun _ _ _ _ _ _ us hl => match us, hl with | [_], _ => rfl⟩

theorem Tx.hot__law_alone (T : Tx P w K mg base) : BW.CalC P w K mg base "_law_alone" 1 [true] m__law_alone := by
  obtain ⟨fd, F0⟩ := T.c.d.def_ 7 rfl
  exact ⟨_, fd, ["_law_e"], fn_okC (k := 0) F0 sc__law_alone rfl (by decide) fun cdv A outer s H I E hr tk => by
    exact vss_cons (vs_set 1 sc__law_alone.nd (ve_of_vf (vf_lst (va_st (ve_iso "BadWeb" T.iso_BadWeb T.fr_isinstance T.gl_BadWeb (ve_var 0)) (va_st (ve_iso "TooMany" T.iso_TooMany T.fr_isinstance T.gl_TooMany (ve_var 0)) (va_st (ve_iso "BadPlace" T.iso_BadPlace T.fr_isinstance T.gl_BadPlace (ve_var 0)) (va_st (ve_iso "BadTie" T.iso_BadTie T.fr_isinstance T.gl_BadTie (ve_var 0)) (va_nil))))))))
      (vss_cons (vs_set 1 sc__law_alone.nd (ve_of_vf (vf_cat (vl_of_ve (ve_var 1)) (vl_of_vf (vf_lst (va_st (ve_iso "BadFlow" T.iso_BadFlow T.fr_isinstance T.gl_BadFlow (ve_var 0)) (va_st (ve_iso "BadRest" T.iso_BadRest T.fr_isinstance T.gl_BadRest (ve_var 0)) (va_st (ve_iso "NoFlow" T.iso_NoFlow T.fr_isinstance T.gl_NoFlow (ve_var 0)) (va_st (ve_iso "BadSet" T.iso_BadSet T.fr_isinstance T.gl_BadSet (ve_var 0)) (va_nil))))))))))
      (vss_cons (vs_set 1 sc__law_alone.nd (ve_of_vf (vf_cat (vl_of_ve (ve_var 1)) (vl_of_vf (vf_lst (va_st (ve_iso "BadPaper" T.iso_BadPaper T.fr_isinstance T.gl_BadPaper (ve_var 0)) (va_st (ve_iso "BadText" T.iso_BadText T.fr_isinstance T.gl_BadText (ve_var 0)) (va_st (ve_iso "BadDeed" T.iso_BadDeed T.fr_isinstance T.gl_BadDeed (ve_var 0)) (va_nil)))))))))
      (vss_one (vs_ret (ve_and (vb_of_ve (ve_eq hr.units (vb_of_ve (ve_cnt (ve_var 1) (vb_of_ve (ve_bl)))) (vb_of_ve (ve_int)))) (vb_of_ve (ve_and (vb_of_ve (ve_iso "FlowError" T.iso_FlowError T.fr_isinstance T.gl_FlowError (ve_var 0))) (vb_of_ve (ve_one (ve_isoT "ValueError" T.iso_ValueError T.fr_isinstance T.fr_ValueError (by decide +kernel) (ve_var 0) (by decide))))))))))), T.gl__law_alone, F0.kp, F0.bindsN fun _ _ _ _ _ _ us hl => match us, hl with | [_], _ => rfl⟩

theorem Tx.ok__law_ends (T : Tx P w K mg base) : CalN P w K mg base "_law_ends" 2 [true, true, true, true] m__law_ends := by
  obtain ⟨fd, F0⟩ := T.c.d.def_ 8 rfl
  exact ⟨_, fd, ["_law_script", "_law_many", "_law_count", "_law_way"], fn_new (k := 1) F0 sc__law_ends rfl (by decide) fun cdv A outer s H I E hr tk hp => by
    exact vss_cons (vs_set 4 sc__law_ends.nd (ve_blt call_abs gc_abs nea_abs T.fr_abs (by decide +kernel) (va_lo (vb_of_ve (ve_cal T.ok__law_cell hr tk (va_st (ve_var 0) (va_st (ve_int) (va_nil))))) (va_nil))))
      (vss_cons (vs_setM 5 sc__law_ends.nd (vf_lst (va_nil)))
      (vss_cons (vs_for hp rfl (vi_range1 T.fr_range (va_lo (vb_of_ve (ve_var 2)) (va_nil))) (vg_name 6 sc__law_ends.nd) (vss_cons (vs_set 7 sc__law_ends.nd (ve_cal T.ok__law_cell hr tk (va_st (ve_var 0) (va_st (ve_add (ve_int) (ve_var 6)) (va_nil)))))
      (vss_cons (vs_if (vt_eq hr.units (vb_of_ve (ve_var 3)) (vb_of_ve (ve_int))) (vss_cons (vs_set 7 sc__law_ends.nd (ve_var 4))
      (vss_one (vs_set 4 sc__law_ends.nd (ve_fdiv (vb_of_ve (ve_var 4)) (vb_of_ve (ve_mul (ve_var 1) (ve_var 1))))))) (vss_nil))
      (vss_cons (vs_if (vt_eq hr.units (vb_of_ve (ve_var 3)) (vb_of_ve (ve_int))) (vss_cons (vs_set 8 sc__law_ends.nd (ve_mod (vb_of_ve (ve_mul (ve_add (ve_add (ve_mod (vb_of_ve (ve_cal T.ok__law_cell hr tk (va_st (ve_var 0) (va_st (ve_int) (va_nil))))) (vb_of_ve (ve_int))) (ve_mul (ve_int) (ve_var 6))) (ve_int)) (ve_int))) (vb_of_ve (ve_int))))
      (vss_cons (vs_set 8 sc__law_ends.nd (ve_mod (vb_of_ve (ve_mul (ve_var 8) (ve_var 8))) (vb_of_ve (ve_int))))
      (vss_one (vs_set 7 sc__law_ends.nd (ve_fdiv (vb_of_ve (ve_mod (vb_of_ve (ve_mul (ve_var 8) (ve_int))) (vb_of_ve (ve_int)))) (vb_of_ve (ve_int))))))) (vss_nil))
      (vss_one (vs_mut 5 PySem.F.slot_list_append PySem.F.type_list_append mt_append mo_app (ve_tup (va_st (ve_mod (vb_of_ve (ve_var 7)) (vb_of_ve (ve_var 1))) (va_st (ve_mod (vb_of_ve (ve_fdiv (vb_of_ve (ve_var 7)) (vb_of_ve (ve_var 1)))) (vb_of_ve (ve_var 1))) (va_nil))))))))))
      (vss_one (vs_retM 5)))), T.gl__law_ends, F0.kp, F0.bindsN fun _ _ _ _ _ _ us hl => match us, hl with | [_, _, _, _], _ => rfl⟩

theorem Tx.ok__law_drawn (T : Tx P w K mg base) : Cal P w K mg base "_law_drawn" 3 [true, true, true] m__law_drawn := by
  obtain ⟨fd, F0⟩ := T.c.d.def_ 9 rfl
  exact ⟨_, fd, ["_law_script", "_law_most", "_law_bound"], fn_ok (k := 2) F0 sc__law_drawn rfl (by decide) fun cdv A outer s H I E hr tk hp => by
    exact vss_cons (vs_set 3 sc__law_drawn.nd (ve_cal T.ok__law_cell hr tk (va_st (ve_var 0) (va_st (ve_int) (va_nil)))))
      (vss_cons (vs_set 4 sc__law_drawn.nd (ve_add (ve_int) (ve_mod (vb_of_ve (ve_var 3)) (vb_of_ve (ve_var 1)))))
      (vss_cons (vs_set 5 sc__law_drawn.nd (ve_mod (vb_of_ve (ve_add (ve_blt call_len gc_len nea_len T.fr_len (by decide +kernel) (va_lo (vb_of_ve (ve_var 0)) (va_nil))) (ve_fdiv (vb_of_ve (ve_var 3)) (vb_of_ve (ve_mul (ve_int) (ve_var 1)))))) (vb_of_ve (ve_add (ve_var 2) (ve_int)))))
      (vss_one (vs_ret (ve_tup (va_st (ve_var 4) (va_st (ve_of_vf (vf_cal T.ok__law_ends hr tk (va_st (ve_var 0) (va_st (ve_var 4) (va_st (ve_var 5) (va_st (ve_mod (vb_of_ve (ve_fdiv (vb_of_ve (ve_var 3)) (vb_of_ve (ve_var 1)))) (vb_of_ve (ve_int))) (va_nil))))))) (va_nil)))))))), T.gl__law_drawn, F0.kp, F0.bindsN fun _ _ _ _ _ _ us hl => match us, hl with | [_, _, _], _ => rfl⟩

theorem Tx.ok__law_led_ears (T : Tx P w K mg base) : Cal P w K mg base "_law_led_ears" 2 [true, true, true, true] m__law_led_ears := by
  obtain ⟨fd, F0⟩ := T.c.d.def_ 10 rfl
  exact ⟨_, fd, ["_law_script", "_law_at", "_law_most", "_law_bound"], fn_ok (k := 1) F0 sc__law_led_ears rfl (by decide) fun cdv A outer s H I E hr tk hp => by
    exact vss_cons (vs_setM 4 sc__law_led_ears.nd (vf_lst (va_nil)))
      (vss_cons (vs_set 5 sc__law_led_ears.nd (ve_int))
      (vss_cons (vs_for hp rfl (vi_range2 T.fr_range (va_lo (vb_of_ve (ve_var 1)) (va_lo (vb_of_ve (ve_blt call_len gc_len nea_len T.fr_len (by decide +kernel) (va_lo (vb_of_ve (ve_var 0)) (va_nil)))) (va_nil)))) (vg_name 6 sc__law_led_ears.nd) (vss_cons (vs_set 11 sc__law_led_ears.nd (ve_ix (ve_var 0) (ve_var 6)))
      (vss_cons (vs_set 12 sc__law_led_ears.nd (ve_mod (vb_of_ve (ve_var 11)) (vb_of_ve (ve_var 5))))
      (vss_cons (vs_set 13 sc__law_led_ears.nd (ve_mod (vb_of_ve (ve_fdiv (vb_of_ve (ve_var 11)) (vb_of_ve (ve_int)))) (vb_of_ve (ve_var 5))))
      (vss_cons (vs_set 14 sc__law_led_ears.nd (ve_blt (call_min3Nu rfl) gc_min3 nea_min3 T.fr_min (by decide +kernel) (va_lo (vb_of_ve (ve_mod (vb_of_ve (ve_fdiv (vb_of_ve (ve_var 11)) (vb_of_ve (ve_int)))) (vb_of_ve (ve_int)))) (va_lo (vb_of_ve (ve_sub (vb_of_ve (ve_var 2)) (vb_of_ve (ve_var 5)))) (va_lo (vb_of_ve (ve_sub (vb_of_ve (ve_sub (vb_of_ve (ve_var 3)) (vb_of_ve (ve_int)))) (vb_of_ve (ve_blt call_len gc_len nea_len T.fr_len (by decide +kernel) (va_lo (vb_var 4) (va_nil)))))) (va_nil))))))
      (vss_one (vs_if (vt_ge (vb_of_ve (ve_var 14)) (vb_of_ve (ve_int))) (vss_cons (vs_set 16 sc__law_led_ears.nd (ve_of_vf (vf_cat (vl_of_vf (vf_cat (vl_of_vf (vf_lst (va_st (ve_var 12) (va_nil)))) (vl_of_vf (vf_listRg2 rfl T.fr_list T.fr_range (ve_var 5) (ve_add (ve_var 5) (ve_var 14)))))) (vl_of_vf (vf_lst (va_st (ve_var 13) (va_nil)))))))
      (vss_cons (vs_mut 4 PySem.F.slot_list_extend PySem.F.type_list_extend mt_extend mo_ext (ve_of_vf (vf_lc (own := [("_law_j", 17)]) rfl sc__law_led_ears.nd (vi_range1 T.fr_range (va_lo (vb_of_ve (ve_sub (vb_of_ve (ve_blt call_len gc_len nea_len T.fr_len (by decide +kernel) (va_lo (vb_of_ve (ve_var 16)) (va_nil)))) (vb_of_ve (ve_int)))) (va_nil))) (blkOk_by (own := [("_law_j", 17)]) (N := n__law_led_ears) (sc := defScope s__law_led_ears) (by decide +kernel)) (fun _ _ _ _ _ => vg_name 17 sc__law_led_ears.nd) (fun _ _ _ _ _ => vts_nil) (fun _ _ _ _ _ => ve_tup (va_st (ve_ix (ve_var 16) (ve_var 17)) (va_st (ve_ix (ve_var 16) (ve_add (ve_var 17) (ve_int))) (va_nil)))))))
      (vss_one (vs_set 5 sc__law_led_ears.nd (ve_add (ve_var 5) (ve_var 14)))))) (vss_nil))))))))
      (vss_cons (vs_setM 7 sc__law_led_ears.nd (vf_lst (va_nil)))
      (vss_cons (vs_set 8 sc__law_led_ears.nd (ve_add (ve_int) (ve_mod (vb_of_ve (ve_cal T.ok__law_cell hr tk (va_st (ve_var 0) (va_st (ve_int) (va_nil))))) (vb_of_ve (ve_int)))))
      (vss_cons (vs_for hp rfl (vi_range1 T.fr_range (va_lo (vb_of_ve (ve_blt call_len gc_len nea_len T.fr_len (by decide +kernel) (va_lo (vb_var 4) (va_nil)))) (va_nil))) (vg_name 6 sc__law_led_ears.nd) (vss_cons (vs_set 8 sc__law_led_ears.nd (ve_mod (vb_of_ve (ve_mul (ve_var 8) (ve_int))) (vb_of_ve (ve_int))))
      (vss_cons (vs_set 8 sc__law_led_ears.nd (ve_mod (vb_of_ve (ve_add (ve_mul (ve_var 8) (ve_var 8)) (ve_mul (ve_int) (ve_var 6)))) (vb_of_ve (ve_int))))
      (vss_one (vs_ins 7 (ve_mod (vb_of_ve (ve_fdiv (vb_of_ve (ve_var 8)) (vb_of_ve (ve_int)))) (vb_of_ve (ve_add (ve_var 6) (ve_int)))) (ve_var 6))))))
      (vss_frz 7 (vss_cons (vs_setLcI 9 (own := [("_law_k", 6)]) rfl sc__law_led_ears.nd (vi_seq (ve_var 7)) (blkOk_by (own := [("_law_k", 6)]) (N := n__law_led_ears) (sc := defScope s__law_led_ears) (by decide +kernel)) (fun _ _ _ _ _ => vg_name 6 sc__law_led_ears.nd) (fun _ _ _ _ _ => vts_nil) (fun _ _ _ _ _ => ve_eq hr.units (vb_of_ve (ve_mod (vb_of_ve (ve_fdiv (vb_of_ve (ve_var 8)) (vb_of_ve (ve_add (ve_var 6) (ve_int))))) (vb_of_ve (ve_int)))) (vb_of_ve (ve_int))))
      (vss_cons (vs_setM 10 sc__law_led_ears.nd (vf_lst (va_nil)))
      (vss_cons (vs_for hp rfl (vi_range1 T.fr_range (va_lo (vb_of_ve (ve_blt call_len gc_len nea_len T.fr_len (by decide +kernel) (va_lo (vb_var 7) (va_nil)))) (va_nil))) (vg_name 6 sc__law_led_ears.nd) (vss_cons (vs_set 15 sc__law_led_ears.nd (ve_ixC (vl_var 4) (ve_ixC (vl_var 7) (ve_var 6))))
      (vss_cons (vs_if (vt_not (vt_val (vb_of_ve (ve_ix (ve_var 9) (ve_var 6))))) (vss_one (vs_set 15 sc__law_led_ears.nd (ve_tup (va_st (ve_ix (ve_var 15) (ve_int)) (va_st (ve_ix (ve_var 15) (ve_int)) (va_nil)))))) (vss_nil))
      (vss_one (vs_mut 10 PySem.F.slot_list_append PySem.F.type_list_append mt_append mo_app (ve_var 15))))))
      (vss_frz 10 (vss_one (vs_ret (ve_tup (va_st (ve_var 5) (va_st (ve_var 10) (va_st (ve_var 9) (va_nil))))))))))))))))), T.gl__law_led_ears, F0.kp, F0.bindsN fun _ _ _ _ _ _ us hl => match us, hl with | [_, _, _, _], _ => rfl⟩

theorem Tx.ok__law_come (T : Tx P w K mg base) : CalN P w K mg base "_law_come" 1 [true, true, true] m__law_come := by
  obtain ⟨fd, F0⟩ := T.c.d.def_ 11 rfl
  exact ⟨_, fd, ["_law_ends_here", "_law_directions", "_law_place"], fn_new (k := 0) F0 sc__law_come rfl (by decide) fun cdv A outer s H I E hr tk hp => by
    exact vss_cons (vs_setM 3 sc__law_come.nd (vf_lst (va_st (ve_var 2) (va_nil))))
      (vss_cons (vs_setM 4 sc__law_come.nd (vf_lst (va_st (ve_var 2) (va_nil))))
      (vss_cons (vs_while 1000 hp (vt_ne hr.units (vb_var 4) (vb_of_ve (ve_of_vf (vf_lst (va_nil))))) (vss_cons (vs_pop 5 4 sc__law_come.nd)
      (vss_one (vs_for hp rfl (vi_range1 T.fr_range (va_lo (vb_of_ve (ve_blt call_len gc_len nea_len T.fr_len (by decide +kernel) (va_lo (vb_of_ve (ve_var 0)) (va_nil)))) (va_nil))) (vg_name 6 sc__law_come.nd) (vss_cons (vs_unp (ve_ix (ve_var 0) (ve_var 6)) (vg_tup rfl (vgs_cons (vg_name 7 sc__law_come.nd) (vgs_cons (vg_name 8 sc__law_come.nd) (vgs_nil)))))
      (vss_cons (vs_if (vt_not (vt_val (vb_of_ve (ve_ix (ve_var 1) (ve_var 6))))) (vss_one (vs_par 7 8 rfl sc__law_come.nd (ve_var 8) (ve_var 7))) (vss_nil))
      (vss_one (vs_if (vt_w (vw_and (vt_eq hr.units (vb_of_ve (ve_var 7)) (vb_of_ve (ve_var 5))) (vw_and1 (vt_nin (vb_of_ve (ve_var 8)) (vb_var 3))))) (vss_cons (vs_mut 3 PySem.F.slot_list_append PySem.F.type_list_append mt_append mo_app (ve_var 8))
      (vss_one (vs_mut 4 PySem.F.slot_list_append PySem.F.type_list_append mt_append mo_app (ve_var 8)))) (vss_nil)))))))))
      (vss_one (vs_retM 3)))), T.gl__law_come, F0.kp, F0.bindsN fun _ _ _ _ _ _ us hl => match us, hl with | [_, _, _], _ => rfl⟩

theorem Tx.ok__law_whirl (T : Tx P w K mg base) : Cal P w K mg base "_law_whirl" 2 [true, true, true] m__law_whirl := by
  obtain ⟨fd, F0⟩ := T.c.d.def_ 12 rfl
  exact ⟨_, fd, ["_law_many", "_law_ends_here", "_law_directions"], fn_ok (k := 1) F0 sc__law_whirl rfl (by decide) fun cdv A outer s H I E hr tk hp => by
    exact vss_cons (vs_setLcI 3 (own := [("_law_place", 7)]) rfl sc__law_whirl.nd (vi_range1 T.fr_range (va_lo (vb_of_ve (ve_var 0)) (va_nil))) (blkOk_by (own := [("_law_place", 7)]) (N := n__law_whirl) (sc := defScope s__law_whirl) (by decide +kernel)) (fun _ _ _ _ _ => vg_name 7 sc__law_whirl.nd) (fun _ _ _ _ _ => vts_nil) (fun _ _ _ _ _ => ve_of_vf (vf_cal T.ok__law_come hr takes0 (va_st (ve_var 1) (va_st (ve_var 2) (va_st (ve_var 7) (va_nil)))))))
      (vss_cons (vs_for hp rfl (vi_range1 T.fr_range (va_lo (vb_of_ve (ve_blt call_len gc_len nea_len T.fr_len (by decide +kernel) (va_lo (vb_of_ve (ve_var 1)) (va_nil)))) (va_nil))) (vg_name 4 sc__law_whirl.nd) (vss_cons (vs_unp (ve_ix (ve_var 1) (ve_var 4)) (vg_tup rfl (vgs_cons (vg_name 5 sc__law_whirl.nd) (vgs_cons (vg_name 6 sc__law_whirl.nd) (vgs_nil)))))
      (vss_cons (vs_if (vt_not (vt_val (vb_of_ve (ve_ix (ve_var 2) (ve_var 4))))) (vss_one (vs_par 5 6 rfl sc__law_whirl.nd (ve_var 6) (ve_var 5))) (vss_nil))
      (vss_one (vs_if (vt_nin (vb_of_ve (ve_var 5)) (vb_of_ve (ve_ix (ve_var 3) (ve_var 6)))) (vss_one (vs_ret (ve_bl))) (vss_nil))))))
      (vss_one (vs_ret (ve_bl)))), T.gl__law_whirl, F0.kp, F0.bindsN fun _ _ _ _ _ _ us hl => match us, hl with | [_, _, _], _ => rfl⟩

theorem Tx.ok__law_turns (T : Tx P w K mg base) : CalN P w K mg base "_law_turns" 1 [true, true] m__law_turns := by
  obtain ⟨fd, F0⟩ := T.c.d.def_ 13 rfl
  exact ⟨_, fd, ["_law_cell_here", "_law_many"], fn_new (k := 0) F0 sc__law_turns rfl (by decide) fun cdv A outer s H I E hr tk hp => by
    exact vss_cons (vs_set 2 sc__law_turns.nd (ve_blt call_abs gc_abs nea_abs T.fr_abs (by decide +kernel) (va_lo (vb_of_ve (ve_var 0)) (va_nil))))
      (vss_cons (vs_setM 3 sc__law_turns.nd (vf_lst (va_nil)))
      (vss_cons (vs_for hp rfl (vi_range1 T.fr_range (va_lo (vb_of_ve (ve_var 1)) (va_nil))) (vg_name 4 sc__law_turns.nd) (vss_cons (vs_mut 3 PySem.F.slot_list_append PySem.F.type_list_append mt_append mo_app (ve_eq hr.units (vb_of_ve (ve_mod (vb_of_ve (ve_var 2)) (vb_of_ve (ve_int)))) (vb_of_ve (ve_int))))
      (vss_one (vs_set 2 sc__law_turns.nd (ve_fdiv (vb_of_ve (ve_var 2)) (vb_of_ve (ve_int)))))))
      (vss_one (vs_retM 3)))), T.gl__law_turns, F0.kp, F0.bindsN fun _ _ _ _ _ _ us hl => match us, hl with | [_, _], _ => rfl⟩

theorem Tx.ok__law_refused (T : Tx P w K mg base) : Cal P w K mg base "_law_refused" 20 [true] m__law_refused := by
  obtain ⟨fd, F0⟩ := T.c.d.def_ 14 rfl
  exact ⟨_, fd, ["_law_web"], fn_ok (k := 19) F0 sc__law_refused rfl (by decide) fun cdv A outer s H I E hr tk hp => by
    exact vss_cons (vs_set 1 sc__law_refused.nd (ve_non))
      (vss_cons (vs_try 2 T.exm_FlowError tk ⟨rfl, by decide, .inl T.gl_FlowError⟩ sc__law_refused.nd (fun W2 pn xe tk hp => vss_one (vs_drop (ve_cal T.ok_how_many_whirls hr tk (va_st (ve_var 0) (va_nil))))) (fun a pn => vss_one (vs_set 1 sc__law_refused.nd (ve_of_vf (vf_lst (va_st (ve_iso "TooMany" T.iso_TooMany T.fr_isinstance T.gl_TooMany (ve_var 2)) (va_st (ve_calC T.hot__law_alone (roomS hr) takes0 (va_st (ve_var 2) (va_nil))) (va_nil))))))))
      (vss_one (vs_ret (ve_eq hr.units (vb_of_ve (ve_var 1)) (vb_of_ve (ve_of_vf (vf_lst (va_st (ve_bl) (va_st (ve_bl) (va_nil)))))))))), T.gl__law_refused, F0.kp, F0.bindsN fun _ _ _ _ _ _ us hl => match us, hl with | [_], _ => rfl⟩

theorem Tx.ok__law_is (T : Tx P w K mg base) : Cal P w K mg base "_law_is" 20 [true, true] m__law_is := by
  obtain ⟨fd, F0⟩ := T.c.d.def_ 15 rfl
  exact ⟨_, fd, ["_law_web", "_law_due"], fn_ok (k := 19) F0 sc__law_is rfl (by decide) fun cdv A outer s H I E hr tk hp => by
    exact vss_cons (vs_set 2 sc__law_is.nd (ve_cal T.ok_how_many_whirls hr tk (va_st (ve_var 0) (va_nil))))
      (vss_one (vs_ret (ve_and (vb_of_ve (ve_cal T.ok__law_whole hr tk (va_st (ve_var 2) (va_nil)))) (vb_of_ve (ve_one (ve_eq hr.units (vb_of_ve (ve_var 2)) (vb_of_ve (ve_var 1)))))))), T.gl__law_is, F0.kp, F0.bindsN fun _ _ _ _ _ _ us hl => match us, hl with | [_, _], _ => rfl⟩

theorem ok_law (c : BW.SaysB fa fn ex K) (T : ∀ base : Heap, K.In base → base.Ns mainGlobals mg → Tx P w K mg base) : BW.LawC P w K mg 21 m_law := by
  obtain ⟨fd, F0⟩ := c.d.def_ 16 rfl
  exact ⟨fd, fun s us hu => F0.bindsA (fun _ _ _ _ _ _ us hl => match us, hl with | [_], _ => rfl) s us hu, fun base h1 h2 => by
    have T := T base h1 h2
    exact fn_ok (k := 20) F0 sc_law rfl (by decide) fun cdv A outer s H I E hr tk hp => by
      exact vss_cons (vs_unp (ve_cal T.ok__law_drawn hr tk (va_st (ve_var 0) (va_st (ve_int) (va_st (ve_int) (va_nil))))) (vg_tup rfl (vgs_cons (vg_name 1 sc_law.nd) (vgs_cons (vg_name 2 sc_law.nd) (vgs_nil)))))
            (vss_cons (vs_if (vt_eq hr.units (vb_of_ve (ve_mod (vb_of_ve (ve_cal T.ok__law_cell hr tk (va_st (ve_var 0) (va_st (ve_int) (va_nil))))) (vb_of_ve (ve_int)))) (vb_of_ve (ve_int))) (vss_one (vs_unp (ve_cal T.ok__law_led_ears hr tk (va_st (ve_var 0) (va_st (ve_int) (va_st (ve_int) (va_st (ve_int) (va_nil)))))) (vg_tup rfl (vgs_cons (vg_name 1 sc_law.nd) (vgs_cons (vg_name 2 sc_law.nd) (vgs_cons (vg_name 9 sc_law.nd) (vgs_nil))))))) (vss_nil))
            (vss_cons (vs_set 3 sc_law.nd (ve_int))
            (vss_cons (vs_for hp rfl (vi_range1 T.fr_range (va_lo (vb_of_ve (ve_shl (vb_of_ve (ve_int)) (vb_of_ve (ve_blt call_len gc_len nea_len T.fr_len (by decide +kernel) (va_lo (vb_of_ve (ve_var 2)) (va_nil)))))) (va_nil))) (vg_name 4 sc_law.nd) (vss_one (vs_set 3 sc_law.nd (ve_add (ve_var 3) (ve_bty call_int1 gc_int nea_int T.fr_int (by decide +kernel) (va_lo (vb_of_ve (ve_cal T.ok__law_whirl hr tk (va_st (ve_var 1) (va_st (ve_var 2) (va_st (ve_of_vf (vf_cal T.ok__law_turns hr tk (va_st (ve_var 4) (va_st (ve_blt call_len gc_len nea_len T.fr_len (by decide +kernel) (va_lo (vb_of_ve (ve_var 2)) (va_nil))) (va_nil))))) (va_nil)))))) (va_nil)))))))
            (vss_cons (vs_if (vt_not (vt_val (vb_of_ve (ve_cal T.ok__law_is hr tk (va_st (ve_web T.web hr tk (val_st (ve_var 1) (val_st (ve_of_vf (vf_bty call_list_of gcf_list nea_list T.fr_list (by decide +kernel) (va_st (ve_var 2) (va_nil)))) (val_nil)))) (va_st (ve_var 3) (va_nil))))))) (vss_one (vs_ret (ve_bl))) (vss_nil))
            (vss_cons (vs_set 5 sc_law.nd (ve_of_vf (vf_cat (vl_of_ve (ve_var 2)) (vl_of_vf (vf_lc (own := [("_law_one", 10), ("_law_two", 11)]) rfl sc_law.nd (vi_seq (ve_var 2)) (blkOk_by (own := [("_law_one", 10), ("_law_two", 11)]) (N := n_law) (sc := defScope s_law) (by decide +kernel)) (fun _ _ _ _ _ => vg_tup rfl (vgs_cons (vg_name 10 sc_law.nd) (vgs_cons (vg_name 11 sc_law.nd) (vgs_nil)))) (fun _ _ _ _ _ => vts_nil) (fun _ _ _ _ _ => ve_tup (va_st (ve_add (ve_var 10) (ve_var 1)) (va_st (ve_add (ve_var 11) (ve_var 1)) (va_nil)))))))))
            (vss_cons (vs_if (vt_not (vt_val (vb_of_ve (ve_cal T.ok__law_is hr tk (va_st (ve_web T.web hr tk (val_st (ve_mul (ve_int) (ve_var 1)) (val_st (ve_var 5) (val_nil)))) (va_st (ve_mul (ve_var 3) (ve_var 3)) (va_nil))))))) (vss_one (vs_ret (ve_bl))) (vss_nil))
            (vss_cons (vs_set 6 sc_law.nd (ve_mod (vb_of_ve (ve_blt (cr_sum rfl) gc_sum nea_sum T.fr_sum (by decide +kernel) (va_lo (vb_of_ve (ve_var 0)) (va_nil)))) (vb_of_ve (ve_var 1))))
            (vss_cons (vs_set 7 sc_law.nd (ve_of_vf (vf_rep (vl_of_vf (vf_lst (va_st (ve_tup (va_st (ve_var 6) (va_st (ve_var 6) (va_nil)))) (va_nil)))) (ve_sub (vb_of_ve (ve_int)) (vb_of_ve (ve_blt call_len gc_len nea_len T.fr_len (by decide +kernel) (va_lo (vb_of_ve (ve_var 2)) (va_nil))))))))
            (vss_cons (vs_if (vt_not (vt_val (vb_of_ve (ve_cal T.ok__law_is hr tk (va_st (ve_web T.web hr tk (val_st (ve_var 1) (val_st (ve_add (ve_var 7) (ve_var 2)) (val_nil)))) (va_st (ve_shl (vb_of_ve (ve_var 3)) (vb_of_ve (ve_blt call_len gc_len nea_len T.fr_len (by decide +kernel) (va_lo (vb_of_ve (ve_var 7)) (va_nil))))) (va_nil))))))) (vss_one (vs_ret (ve_bl))) (vss_nil))
            (vss_cons (vs_set 8 sc_law.nd (ve_of_vf (vf_rep (vl_of_vf (vf_lst (va_st (ve_tup (va_st (ve_int) (va_st (ve_int) (va_nil)))) (va_nil)))) (ve_add (ve_int) (ve_mod (vb_of_ve (ve_blt (cr_sum rfl) gc_sum nea_sum T.fr_sum (by decide +kernel) (va_lo (vb_of_ve (ve_var 0)) (va_nil)))) (vb_of_ve (ve_int)))))))
            (vss_cons (vs_if (vt_not (vt_val (vb_of_ve (ve_cal T.ok__law_refused hr tk (va_st (ve_web T.web hr tk (val_st (ve_var 1) (val_st (ve_of_vf (vf_cat (vl_of_ve (ve_add (ve_var 2) (ve_var 7))) (vl_of_vf (vf_lst (va_st (ve_tup (va_st (ve_var 6) (va_st (ve_int) (va_nil)))) (va_nil)))))) (val_nil)))) (va_nil)))))) (vss_one (vs_ret (ve_bl))) (vss_nil))
            (vss_one (vs_ret (ve_cal T.ok__law_refused hr tk (va_st (ve_web T.web hr tk (val_st (ve_var 1) (val_st (ve_add (ve_add (ve_var 7) (ve_var 2)) (ve_var 8)) (val_nil)))) (va_nil))))))))))))))))⟩
end
end BW.Wk
namespace BW.Wk
open PySem PySem.Spec PyProof.Rows L2
open Evl (Ex Ex.refl Ex.trans Ex.new ex_rd ex_l ex_t)
def tb1_come_to (p_k : Int) (a : Int × Int) (g : List Int) : TR (List Int) (List Int) (List Int) := TR.sq (TR.ob (((ixT g p_k).bind fun v2 => .ok (decide (a.1 = v2))).bind fun k3 => cond k3 (.ok (!(decide (a.2 ∈ g)))) (.ok false)) fun k6 => cond k6
  (TR.ob (appT g a.2) fun x5 =>
  .nx x5)
  (.nx g)) fun g4 =>
  .nx g4
theorem hb1_come_to {c0 c1 : Option Sl} (p_k : Int) (a : Int × Int) (g : List Int) : Sim [c0, c1, some (.mu (g.map eI)), some (.im (eI p_k)), some (.im (eI a.1)), some (.im (eI a.2))] b1_come_to (tb1_come_to p_k a g) (fun g : List Int => [c0, c1, some (.mu (g.map eI)), some (.im (eI p_k)), none, none]) (fun g : List Int => [c0, c1, some (.mu (g.map eI)), some (.im (eI p_k)), none, none]) keT (eL eI) := by
  unfold b1_come_to tb1_come_to
  exact sim_last (sim_seq (out1 := (fun g4 : List Int => [c0, c1, some (.mu (g4.map eI)), some (.im (eI p_k)), some (.im (eI a.1)), some (.im (eI a.2))])) (sim_ifb (kpT) (ev_andb (ev2pb (ev_I eI a.1) (ev2pp (ev_Ls (ev_Vm eI g)) (ev_I eI p_k) (rf_ixL)) (fun v2 => rf_eq plI)) (ev2pp (ev_I eI a.2) (ev_Lm eI g) (rf_nin rf_inL))) (sim_last (sim_mut (e2 := eI) (l := g) rfl (ev_I eI a.2) ro_app (fun x5 => sim_next (x := x5) [true, true, true, true, true, true] rfl))) (sim_next (x := g) [true, true, true, true, true, true] rfl)) (fun g4 => sim_next (x := g4) [true, true, true, true, false, false] rfl))
def tc1_come_to (p_ways : List (Int × Int)) (g : (List Int) × Int) : R Bool := (.ok (decide (g.2 < (g.1.length : Int))))
theorem hc1_come_to {c1 : Option Sl} (p_ways : List (Int × Int)) (g : (List Int) × Int) : EvE [some (.im ((eL (eP eI eI)) p_ways)), c1, some (.mu (g.1.map eI)), some (.im (eI g.2)), none, none] c1_come_to (tc1_come_to p_ways g) eB := by
  unfold c1_come_to tc1_come_to
  exact ev2pp (ev_I eI g.2) (ev_A (eva_p (ev_Lm eI g.1) (eva_nil (rf_lenL)))) (rf_lt)
def tw1_come_to (p_ways : List (Int × Int)) (g : (List Int) × Int) : TR ((List Int) × Int) ((List Int) × Int) (List Int) := TR.sq (forT (tb1_come_to g.2) p_ways g.1) fun g7 =>
  .nx (g7, g.2 + (1 : Int))
theorem hw1_come_to {c1 : Option Sl} (p_ways : List (Int × Int)) (g : (List Int) × Int) : Sim [some (.im ((eL (eP eI eI)) p_ways)), c1, some (.mu (g.1.map eI)), some (.im (eI g.2)), none, none] w1_come_to (tw1_come_to p_ways g) (fun g : (List Int) × Int => [some (.im ((eL (eP eI eI)) p_ways)), c1, some (.mu (g.1.map eI)), some (.im (eI g.2)), none, none]) (fun g : (List Int) × Int => [some (.im ((eL (eP eI eI)) p_ways)), c1, some (.mu (g.1.map eI)), some (.im (eI g.2)), none, none]) keT (eL eI) := by
  unfold w1_come_to tw1_come_to
  exact sim_seq (sim_for (e1 := (eP eI eI)) (tb1_come_to g.2) (fun g7 : List Int => [some (.im ((eL (eP eI eI)) p_ways)), c1, some (.mu (g7.map eI)), some (.im (eI g.2)), none, none]) [true, true, true, true, false, false] (ev1p (ev_I (eL (eP eI eI)) p_ways) (rf_seqL)) (fun a8 g7 => ⟨_, evt_T rfl (evts_cons (evt_N) (evts_cons (evt_N) (evts_nil))), hb1_come_to g.2 a8 g7⟩) rfl) (fun g7 => sim_last (sim_aug (op := (· + ·)) rfl (ev_C eI (1 : Int)) (sim_next (x := (g7, g.2 + (1 : Int))) [true, true, true, true, false, false] rfl)))
def t_come_to (p_ways : List (Int × Int)) (p_place : Int) : R (List Int) := TR.out (Γ := Unit) (TR.ob (.ok ([p_place] : List Int)) fun x1 =>
  TR.sq (whT (tc1_come_to p_ways) (tw1_come_to p_ways) 1000 (x1, (0 : Int))) fun g9 =>
  .rt g9.1) .no
theorem h_come_to (p_ways : List (Int × Int)) (p_place : Int) : RefR (m_come_to [(eL (eP eI eI)) p_ways, eI p_place]) (t_come_to p_ways p_place) (eL eI) := by
  unfold t_come_to
  refine ref_defN (n := n_come_to.length) (fl := [true, true]) (g := g_come_to) (out := fun _ => [none, none, none, none, none, none]) (c := [some (.im ((eL (eP eI eI)) p_ways)), some (.im (eI p_place)), none, none, none, none]) rfl (.som (.som (.non (.non (.non (.non .nil)))))) ?_
  unfold g_come_to
  exact sim_setMb (kpT) (ev_A (eva_p (ev_I eI p_place) (eva_nil (rf_lst (l := ([p_place] : List Int)) (e := eI))))) (fun x1 => sim_set (ev_C eI (0 : Int)) (sim_seq (sim_while (tc1_come_to p_ways) (tw1_come_to p_ways) (fun g9 : (List Int) × Int => [some (.im ((eL (eP eI eI)) p_ways)), some (.im (eI p_place)), some (.mu (g9.1.map eI)), some (.im (eI g9.2)), none, none]) [true, true, true, true, false, false] (fun _ => kpT) (fun g9 => hc1_come_to p_ways g9) (fun g9 => hw1_come_to p_ways g9) rfl) (fun g9 => sim_retM (x := g9.1) (e := (eL eI)) rfl rfl)))
def t_how_many_whirls (p_web : W) : R Int := TR.out (Γ := Unit) (cond (decide ((12 : Int) < (p_web.ties.length : Int)))
  (TR.up (.er 4 []))
  (TR.ob (howT t_come_to 14 p_web) .rt)) .no
theorem h_how_many_whirls (p_web : W) : RefR (m_how_many_whirls [eW p_web]) (t_how_many_whirls p_web) eI := by
  unfold t_how_many_whirls
  refine ref_def (n := n_how_many_whirls.length) (fl := [true]) (g := g_how_many_whirls) (out := fun _ => [none, none, none]) (c := [some (.im (eW p_web)), none, none]) rfl (.som (.non (.non .nil))) ?_ (.inr rfl)
  unfold g_how_many_whirls
  exact sim_guard (out1 := fun x => nomatch x) (ev2pp (ev_A (eva_p (ev1p (ev_I eW p_web) (rf_ties)) (eva_nil (rf_lenT)))) (ev_C eI (12 : Int)) (rf_gt)) (sim_raise (kpT)) (sim_how h_come_to)
def t__law_cell (p_script : List Int) (p_k : Int) : R Int := TR.out (Γ := Unit) (cond (decide (p_k < (p_script.length : Int)))
  (TR.up (TR.ob (ixT p_script p_k) .rt))
  (.rt (0 : Int))) .no
theorem h__law_cell (p_script : List Int) (p_k : Int) : RefR (m__law_cell [eR p_script, eI p_k]) (t__law_cell p_script p_k) eI := by
  unfold t__law_cell
  refine ref_def (n := n__law_cell.length) (fl := [true, true]) (g := g__law_cell) (out := fun _ => [none, none]) (c := [some (.im (eR p_script)), some (.im (eI p_k))]) rfl (.som (.som .nil)) ?_ (.inr rfl)
  unfold g__law_cell
  exact sim_guard (out1 := fun x => nomatch x) (ev2pp (ev_I eI p_k) (ev_A (eva_p (ev_I eR p_script) (eva_nil (rf_lenR)))) (rf_lt)) (sim_retb (kpT) (ev2pp (ev_I eR p_script) (ev_I eI p_k) (rf_ixR))) (sim_ret (ev_C eI (0 : Int)))
def t__law_whole (p_found : Int) : R Bool := TR.out (Γ := Unit) (.rt (true && (!false))) .no
theorem h__law_whole (p_found : Int) : RefR (m__law_whole [eI p_found]) (t__law_whole p_found) eB := by
  unfold t__law_whole
  refine ref_def (n := n__law_whole.length) (fl := [true]) (g := g__law_whole) (out := fun _ => [none]) (c := [some (.im (eI p_found))]) rfl (.som .nil) ?_ (.inr rfl)
  unfold g__law_whole
  exact sim_ret (ev_andp (ev1p (ev_I eI p_found) (rf_is (e := eI) (x := p_found) (fun _ => rfl))) (ev_not (ev1p (ev_I eI p_found) (rf_is (e := eI) (x := p_found) (fun _ => rfl)))))
def t__law_alone (p_e : Nat) : R Bool := TR.out (Γ := Unit) (TR.ob ((isoTb [(2, false), (3, true), (4, false), (5, false), (6, false), (7, false), (8, false), (10, false), (11, false)] p_e).bind fun v1 => (isoTb [(2, false), (3, false), (4, true), (5, false), (6, false), (7, false), (8, false), (10, false), (11, false)] p_e).bind fun v2 => (isoTb [(2, false), (3, false), (4, false), (5, true), (6, false), (7, false), (8, false), (10, false), (11, false)] p_e).bind fun v3 => (isoTb [(2, false), (3, false), (4, false), (5, false), (6, true), (7, false), (8, false), (10, false), (11, false)] p_e).bind fun v4 => .ok ([v1, v2, v3, v4] : List Bool)) fun x5 =>
  TR.ob (((isoTb [(2, false), (3, false), (4, false), (5, false), (6, false), (7, true), (8, false), (10, false), (11, false)] p_e).bind fun v6 => (isoTb [(2, false), (3, false), (4, false), (5, false), (6, false), (7, false), (8, true), (10, false), (11, false)] p_e).bind fun v7 => (isoTb [(2, false), (3, false), (4, false), (5, false), (6, false), (7, false), (8, false), (10, false), (11, false)] p_e).bind fun v8 => (isoTb [(2, false), (3, false), (4, false), (5, false), (6, false), (7, false), (8, false), (10, true), (11, false)] p_e).bind fun v9 => .ok ([v6, v7, v8, v9] : List Bool)).bind fun v10 => catT x5 v10) fun x11 =>
  TR.ob (((isoTb [(2, false), (3, false), (4, false), (5, false), (6, false), (7, false), (8, false), (10, false), (11, true)] p_e).bind fun v12 => (isoTb [(2, false), (3, false), (4, false), (5, false), (6, false), (7, false), (8, false), (10, false), (11, false)] p_e).bind fun v13 => (isoTb [(2, false), (3, false), (4, false), (5, false), (6, false), (7, false), (8, false), (10, false), (11, false)] p_e).bind fun v14 => .ok ([v12, v13, v14] : List Bool)).bind fun v15 => catT x11 v15) fun x16 =>
  TR.ob (cond (decide ((x16.count true : Int) = (1 : Int))) ((isoTb [(2, true), (3, true), (4, true), (5, true), (6, true), (7, true), (8, true), (10, true), (11, true)] p_e).bind fun k17 => cond k17 (isoTb [(2, true), (3, true), (4, true), (5, true), (6, true), (7, true), (8, true), (10, true), (11, true)] p_e) (.ok false)) (.ok false)) .rt) .no
theorem h__law_alone (p_e : Nat) : RefR (m__law_alone [eX p_e]) (t__law_alone p_e) eB := by
  unfold t__law_alone
  refine ref_def (n := n__law_alone.length) (fl := [true]) (g := g__law_alone) (out := fun _ => [none, none]) (c := [some (.im (eX p_e)), none]) rfl (.som (.non .nil)) ?_ (.inr rfl)
  unfold g__law_alone
  exact sim_setb (kpT) (ev_Ls (ev_A (eva_b (ev1p (ev_I eX p_e) (rf_isoX)) (fun v1 => eva_b (ev1p (ev_I eX p_e) (rf_isoX)) (fun v2 => eva_b (ev1p (ev_I eX p_e) (rf_isoX)) (fun v3 => eva_b (ev1p (ev_I eX p_e) (rf_isoX)) (fun v4 => eva_nil (rf_lst (l := ([v1, v2, v3, v4] : List Bool)) (e := eB))))))))) (fun x5 => sim_setb (kpT) (ev_Ls (ev2pb (ev_Ls (ev_I (eL eB) x5)) (ev_Ls (ev_A (eva_b (ev1p (ev_I eX p_e) (rf_isoX)) (fun v6 => eva_b (ev1p (ev_I eX p_e) (rf_isoX)) (fun v7 => eva_b (ev1p (ev_I eX p_e) (rf_isoX)) (fun v8 => eva_b (ev1p (ev_I eX p_e) (rf_isoX)) (fun v9 => eva_nil (rf_lst (l := ([v6, v7, v8, v9] : List Bool)) (e := eB))))))))) (fun v10 => rf_cat))) (fun x11 => sim_setb (kpT) (ev_Ls (ev2pb (ev_Ls (ev_I (eL eB) x11)) (ev_Ls (ev_A (eva_b (ev1p (ev_I eX p_e) (rf_isoX)) (fun v12 => eva_b (ev1p (ev_I eX p_e) (rf_isoX)) (fun v13 => eva_b (ev1p (ev_I eX p_e) (rf_isoX)) (fun v14 => eva_nil (rf_lst (l := ([v12, v13, v14] : List Bool)) (e := eB)))))))) (fun v15 => rf_cat))) (fun x16 => sim_retb (kpT) (ev_and (ev2pp (ev_cnt (ev_I (eL eB) x16) (fun _ => ⟨_, .inl rfl⟩) (ev2pp (ev_I (eL eB) x16) (ev_C eB true) (rf_cnt2B))) (ev_C eI (1 : Int)) (rf_eq plI)) (ev_andb (ev1p (ev_I eX p_e) (rf_isoX)) (ev1p (ev_I eX p_e) (rf_isoX)))))))
def tb1__law_ends (p_script : List Int) (p_many : Int) (p_way : Int) (a : Int) (g : Int × (List (Int × Int))) : TR (Int × (List (Int × Int))) (Int × (List (Int × Int))) (List (Int × Int)) := TR.ob (t__law_cell p_script ((2 : Int) + a)) fun x3 =>
  TR.sq (cond (decide (p_way = (1 : Int)))
  (TR.ob ((mulT p_many p_many).bind fun v5 => fdivT g.1 v5) fun x6 =>
  .nx (x6, g.1))
  (.nx (g.1, x3))) fun g4 =>
  TR.sq (cond (decide (p_way = (2 : Int)))
  (TR.ob ((((((t__law_cell p_script (1 : Int)).bind fun v11 => .ok (v11 % (1000000007 : Int))).bind fun v12 => .ok (v12 + ((977 : Int) * a))).bind fun v13 => .ok (v13 + (1 : Int))).bind fun v14 => .ok (v14 * (48271 : Int))).bind fun v15 => .ok (v15 % (2147483647 : Int))) fun x16 =>
  TR.ob ((mulT x16 x16).bind fun v17 => .ok (v17 % (2147483647 : Int))) fun x18 =>
  TR.ob (.ok (((x18 * (69621 : Int)) % (2147483647 : Int)) / (8 : Int))) fun x19 =>
  .nx x19)
  (.nx g4.2)) fun g7 =>
  TR.ob (((modT g7 p_many).bind fun v22 => ((fdivT g7 p_many).bind fun v21 => modT v21 p_many).bind fun v23 => .ok (v22, v23)).bind (appT g.2)) fun x20 =>
  .nx (g4.1, x20)
theorem hb1__law_ends {c2 : Option Sl} (p_script : List Int) (p_many : Int) (p_way : Int) (a : Int) (g : Int × (List (Int × Int))) : Sim [some (.im (eR p_script)), some (.im (eI p_many)), c2, some (.im (eI p_way)), some (.im (eI g.1)), some (.mu (g.2.map (eP eI eI))), some (.im (eI a)), none, none] b1__law_ends (tb1__law_ends p_script p_many p_way a g) (fun g : Int × (List (Int × Int)) => [some (.im (eR p_script)), some (.im (eI p_many)), c2, some (.im (eI p_way)), some (.im (eI g.1)), some (.mu (g.2.map (eP eI eI))), none, none, none]) (fun g : Int × (List (Int × Int)) => [some (.im (eR p_script)), some (.im (eI p_many)), c2, some (.im (eI p_way)), some (.im (eI g.1)), some (.mu (g.2.map (eP eI eI))), none, none, none]) keT (eL (eP eI eI)) := by
  unfold b1__law_ends tb1__law_ends
  exact sim_setb (kpT) (ev_A (eva_p (ev_I eR p_script) (eva_p (ev2pp (ev_C eI (2 : Int)) (ev_I eI a) (rf_add)) (eva_nil (h__law_cell p_script ((2 : Int) + a)))))) (fun x3 => sim_seq (out1 := (fun g4 : Int × Int => [some (.im (eR p_script)), some (.im (eI p_many)), c2, some (.im (eI p_way)), some (.im (eI g4.1)), some (.mu (g.2.map (eP eI eI))), some (.im (eI a)), some (.im (eI g4.2)), none])) (sim_if (ev2pp (ev_I eI p_way) (ev_C eI (1 : Int)) (rf_eq plI)) (sim_set (ev_I eI g.1) (sim_last (sim_setb (kpT) (ev2pb (ev_I eI g.1) (ev2pp (ev_I eI p_many) (ev_I eI p_many) (rf_mul)) (fun v5 => rf_fdiv)) (fun x6 => sim_next (x := (x6, g.1)) [true, true, true, true, true, true, true, true, false] rfl)))) (sim_next (x := (g.1, x3)) [true, true, true, true, true, true, true, true, false] rfl)) (fun g4 => sim_seq (out1 := (fun g7 : Int => [some (.im (eR p_script)), some (.im (eI p_many)), c2, some (.im (eI p_way)), some (.im (eI g4.1)), some (.mu (g.2.map (eP eI eI))), some (.im (eI a)), some (.im (eI g7)), none])) (sim_if (ev2pp (ev_I eI p_way) (ev_C eI (2 : Int)) (rf_eq plI)) (sim_setb (kpT) (ev2bp (ev2bp (ev2bp (ev2bp (ev2bp (ev_A (eva_p (ev_I eR p_script) (eva_p (ev_C eI (1 : Int)) (eva_nil (h__law_cell p_script (1 : Int)))))) (ev_C eI (1000000007 : Int)) (fun v11 => rf_modL)) (ev2pp (ev_C eI (977 : Int)) (ev_I eI a) (rf_mulL)) (fun v12 => rf_add)) (ev_C eI (1 : Int)) (fun v13 => rf_add)) (ev_C eI (48271 : Int)) (fun v14 => rf_mulR)) (ev_C eI (2147483647 : Int)) (fun v15 => rf_modL)) (fun x16 => sim_setb (kpT) (ev2bp (ev2pp (ev_I eI x16) (ev_I eI x16) (rf_mul)) (ev_C eI (2147483647 : Int)) (fun v17 => rf_modL)) (fun x18 => sim_last (sim_setb (kpT) (ev2pp (ev2pp (ev2pp (ev_I eI x18) (ev_C eI (69621 : Int)) (rf_mulR)) (ev_C eI (2147483647 : Int)) (rf_modL)) (ev_C eI (8 : Int)) (rf_fdivL)) (fun x19 => sim_next (x := x19) [true, true, true, true, true, true, true, true, false] rfl))))) (sim_next (x := g4.2) [true, true, true, true, true, true, true, true, false] rfl)) (fun g7 => sim_last (sim_mutb (e2 := (eP eI eI)) (l := g.2) (kpT) rfl (ev_A (eva_b (ev2pp (ev_I eI g7) (ev_I eI p_many) (rf_mod)) (fun v22 => eva_b (ev2bp (ev2pp (ev_I eI g7) (ev_I eI p_many) (rf_fdiv)) (ev_I eI p_many) (fun v21 => rf_mod)) (fun v23 => eva_nil (rf_P (e1 := eI) (e2 := eI)))))) (fun _ => ro_app) (fun x20 => sim_next (x := (g4.1, x20)) [true, true, true, true, true, true, false, false, false] rfl)))))
def t__law_ends (p_script : List Int) (p_many : Int) (p_count : Int) (p_way : Int) : R (List (Int × Int)) := TR.out (Γ := Unit) (TR.ob ((t__law_cell p_script (1 : Int)).bind fun v1 => .ok (v1.natAbs : Int)) fun x2 =>
  TR.sq (TR.ob (rangeT p_count) fun l26 => forT (tb1__law_ends p_script p_many p_way) l26 (x2, ([] : List (Int × Int)))) fun g24 =>
  .rt g24.2) .no
theorem h__law_ends (p_script : List Int) (p_many : Int) (p_count : Int) (p_way : Int) : RefR (m__law_ends [eR p_script, eI p_many, eI p_count, eI p_way]) (t__law_ends p_script p_many p_count p_way) (eL (eP eI eI)) := by
  unfold t__law_ends
  refine ref_defN (n := n__law_ends.length) (fl := [true, true, true, true]) (g := g__law_ends) (out := fun _ => [none, none, none, none, none, none, none, none, none]) (c := [some (.im (eR p_script)), some (.im (eI p_many)), some (.im (eI p_count)), some (.im (eI p_way)), none, none, none, none, none]) rfl (.som (.som (.som (.som (.non (.non (.non (.non (.non .nil))))))))) ?_
  unfold g__law_ends
  exact sim_setb (kpT) (ev_A (eva_b (ev_A (eva_p (ev_I eR p_script) (eva_p (ev_C eI (1 : Int)) (eva_nil (h__law_cell p_script (1 : Int)))))) (fun v1 => eva_nil (rf_abs)))) (fun x2 => sim_setM (ev_A (eva_nil (rf_lst (l := ([] : List (Int × Int))) (e := (eP eI eI))))) (sim_seq (sim_forb (e1 := eI) (kpT) (tb1__law_ends p_script p_many p_way) (fun g24 : Int × (List (Int × Int)) => [some (.im (eR p_script)), some (.im (eI p_many)), some (.im (eI p_count)), some (.im (eI p_way)), some (.im (eI g24.1)), some (.mu (g24.2.map (eP eI eI))), none, none, none]) [true, true, true, true, true, true, false, false, false] (ev_A (eva_p (ev_I eI p_count) (eva_nil (rf_range)))) (fun a25 g24 => ⟨_, evt_N, hb1__law_ends p_script p_many p_way a25 g24⟩) rfl) (fun g24 => sim_retM (x := g24.2) (e := (eL (eP eI eI))) rfl rfl)))
def t__law_drawn (p_script : List Int) (p_most : Int) (p_bound : Int) : R (Int × (List (Int × Int))) := TR.out (Γ := Unit) (TR.ob (t__law_cell p_script (0 : Int)) fun x1 =>
  TR.ob ((modT x1 p_most).bind fun v2 => .ok ((1 : Int) + v2)) fun x3 =>
  TR.ob (((fdivT x1 ((3 : Int) * p_most)).bind fun v4 => .ok ((p_script.length : Int) + v4)).bind fun v5 => modT v5 (p_bound + (1 : Int))) fun x6 =>
  TR.ob ((((fdivT x1 p_most).bind fun v7 => .ok (v7 % (3 : Int))).bind fun v8 => t__law_ends p_script x3 x6 v8).bind fun v9 => .ok (x3, v9)) .rt) .no
theorem h__law_drawn (p_script : List Int) (p_most : Int) (p_bound : Int) : RefR (m__law_drawn [eR p_script, eI p_most, eI p_bound]) (t__law_drawn p_script p_most p_bound) (eP eI (eL (eP eI eI))) := by
  unfold t__law_drawn
  refine ref_def (n := n__law_drawn.length) (fl := [true, true, true]) (g := g__law_drawn) (out := fun _ => [none, none, none, none, none, none]) (c := [some (.im (eR p_script)), some (.im (eI p_most)), some (.im (eI p_bound)), none, none, none]) rfl (.som (.som (.som (.non (.non (.non .nil)))))) ?_ (.inr rfl)
  unfold g__law_drawn
  exact sim_setb (kpT) (ev_A (eva_p (ev_I eR p_script) (eva_p (ev_C eI (0 : Int)) (eva_nil (h__law_cell p_script (0 : Int)))))) (fun x1 => sim_setb (kpT) (ev2pb (ev_C eI (1 : Int)) (ev2pp (ev_I eI x1) (ev_I eI p_most) (rf_mod)) (fun v2 => rf_add)) (fun x3 => sim_setb (kpT) (ev2bp (ev2pb (ev_A (eva_p (ev_I eR p_script) (eva_nil (rf_lenR)))) (ev2pp (ev_I eI x1) (ev2pp (ev_C eI (3 : Int)) (ev_I eI p_most) (rf_mulL)) (rf_fdiv)) (fun v4 => rf_add)) (ev2pp (ev_I eI p_bound) (ev_C eI (1 : Int)) (rf_add)) (fun v5 => rf_mod)) (fun x6 => sim_retb (kpT) (ev_A (eva_p (ev_I eI x3) (eva_b (ev_Ls (ev_A (eva_p (ev_I eR p_script) (eva_p (ev_I eI x3) (eva_p (ev_I eI x6) (eva_b (ev2bp (ev2pp (ev_I eI x1) (ev_I eI p_most) (rf_fdiv)) (ev_C eI (3 : Int)) (fun v7 => rf_modL)) (fun v8 => eva_nil (h__law_ends p_script x3 x6 v8)))))))) (fun v9 => eva_nil (rf_P (e1 := eI) (e2 := (eL (eP eI eI)))))))))))
def ty1__law_led_ears (p_row : List Int) (a : Int) : R (Int × Int) := (ixT p_row a).bind fun v10 => (ixT p_row (a + (1 : Int))).bind fun v11 => .ok (v10, v11)
theorem hy1__law_led_ears (p_row : List Int) (a : Int) : EvE [none, none, none, none, none, none, none, none, none, none, none, none, none, none, none, none, some (.im ((eL eI) p_row)), some (.im (eI a))] y1__law_led_ears (ty1__law_led_ears p_row a) (eP eI eI) := by
  unfold y1__law_led_ears ty1__law_led_ears
  exact ev_A (eva_b (ev2pp (ev_I (eL eI) p_row) (ev_I eI a) (rf_ixL)) (fun v10 => eva_b (ev2pp (ev_I (eL eI) p_row) (ev2pp (ev_I eI a) (ev_C eI (1 : Int)) (rf_add)) (rf_ixL)) (fun v11 => eva_nil (rf_P (e1 := eI) (e2 := eI)))))
def tb1__law_led_ears (p_script : List Int) (p_most : Int) (p_bound : Int) (a : Int) (g : (List (Int × Int)) × Int) : TR ((List (Int × Int)) × Int) ((List (Int × Int)) × Int) (Int × (List (Int × Int)) × (List Bool)) := TR.ob (ixT p_script a) fun x1 =>
  TR.ob (modT x1 g.2) fun x2 =>
  TR.ob (modT (x1 / (20 : Int)) g.2) fun x3 =>
  TR.ob (.ok (min (min ((x1 / (400 : Int)) % (4 : Int)) (p_most - g.2)) ((p_bound - (1 : Int)) - (g.1.length : Int)))) fun x4 =>
  TR.sq (cond (decide ((0 : Int) ≤ x4))
  (TR.ob (((rg2T g.2 (g.2 + x4)).bind fun v6 => catT ([x2] : List Int) v6).bind fun v7 => catT v7 ([x3] : List Int)) fun x8 =>
  TR.ob (((rangeT ((x8.length : Int) - (1 : Int))).bind fun l14 => fLcT (fun _ => .ok true) (ty1__law_led_ears x8) l14).bind (extT g.1)) fun x9 =>
  .nx (x9, g.2 + x4))
  (.nx (g.1, g.2))) fun g5 =>
  .nx (g5.1, g5.2)
theorem hb1__law_led_ears {c1 c7 c8 c9 c10 c15 c17 : Option Sl} (p_script : List Int) (p_most : Int) (p_bound : Int) (a : Int) (g : (List (Int × Int)) × Int) : Sim [some (.im (eR p_script)), c1, some (.im (eI p_most)), some (.im (eI p_bound)), some (.mu (g.1.map (eP eI eI))), some (.im (eI g.2)), some (.im (eI a)), c7, c8, c9, c10, none, none, none, none, c15, none, c17] b1__law_led_ears (tb1__law_led_ears p_script p_most p_bound a g) (fun g : (List (Int × Int)) × Int => [some (.im (eR p_script)), c1, some (.im (eI p_most)), some (.im (eI p_bound)), some (.mu (g.1.map (eP eI eI))), some (.im (eI g.2)), none, c7, c8, c9, c10, none, none, none, none, c15, none, c17]) (fun g : (List (Int × Int)) × Int => [some (.im (eR p_script)), c1, some (.im (eI p_most)), some (.im (eI p_bound)), some (.mu (g.1.map (eP eI eI))), some (.im (eI g.2)), none, c7, c8, c9, c10, none, none, none, none, c15, none, c17]) keT (eP3 eI (eL (eP eI eI)) (eL eB)) := by
  unfold b1__law_led_ears tb1__law_led_ears
  exact sim_setb (kpT) (ev2pp (ev_I eR p_script) (ev_I eI a) (rf_ixR)) (fun x1 => sim_setb (kpT) (ev2pp (ev_I eI x1) (ev_I eI g.2) (rf_mod)) (fun x2 => sim_setb (kpT) (ev2pp (ev2pp (ev_I eI x1) (ev_C eI (20 : Int)) (rf_fdivL)) (ev_I eI g.2) (rf_mod)) (fun x3 => sim_setb (kpT) (ev_A (eva_p (ev2pp (ev2pp (ev_I eI x1) (ev_C eI (400 : Int)) (rf_fdivL)) (ev_C eI (4 : Int)) (rf_modL)) (eva_p (ev2pp (ev_I eI p_most) (ev_I eI g.2) (rf_sub)) (eva_p (ev2pp (ev2pp (ev_I eI p_bound) (ev_C eI (1 : Int)) (rf_sub)) (ev_A (eva_p (ev_Lm (eP eI eI) g.1) (eva_nil (rf_lenL)))) (rf_sub)) (eva_nil (rf_min3)))))) (fun x4 => sim_last (sim_seq (out1 := (fun g5 : (List (Int × Int)) × Int => [some (.im (eR p_script)), c1, some (.im (eI p_most)), some (.im (eI p_bound)), some (.mu (g5.1.map (eP eI eI))), some (.im (eI g5.2)), some (.im (eI a)), c7, c8, c9, c10, some (.im (eI x1)), some (.im (eI x2)), some (.im (eI x3)), some (.im (eI x4)), c15, none, c17])) (sim_if (ev2pp (ev_I eI x4) (ev_C eI (0 : Int)) (rf_ge)) (sim_setb (kpT) (ev_Ls (ev2bp (ev_Ls (ev2pb (ev_Ls (ev_A (eva_p (ev_I eI x2) (eva_nil (rf_lst (l := ([x2] : List Int)) (e := eI)))))) (ev_Ls (ev2pp (ev_I eI g.2) (ev2pp (ev_I eI g.2) (ev_I eI x4) (rf_add)) (rf_rg2))) (fun v6 => rf_cat))) (ev_Ls (ev_A (eva_p (ev_I eI x3) (eva_nil (rf_lst (l := ([x3] : List Int)) (e := eI)))))) (fun v7 => rf_cat))) (fun x8 => sim_mutb (e2 := (eP eI eI)) (l := g.1) (kpT) rfl (ev_Ls (ev_lc (ea := eI) (eb := (eP eI eI)) (tst := (fun _ => .ok true)) (y := (ty1__law_led_ears x8)) (ev_A (eva_p (ev2pp (ev_A (eva_p (ev_I (eL eI) x8) (eva_nil (rf_lenL)))) (ev_C eI (1 : Int)) (rf_sub)) (eva_nil (rf_range)))) (fun a13 => ⟨_, evt_N, ev_C eB true, ev_w [false, false, false, false, false, false, false, false, false, false, false, false, false, false, false, false, true, true] (hy1__law_led_ears x8 a13)⟩))) (fun _ => ro_ext) (fun x9 => sim_last (sim_set (ev2pp (ev_I eI g.2) (ev_I eI x4) (rf_add)) (sim_next (x := (x9, g.2 + x4)) [true, true, true, true, true, true, true, true, true, true, true, true, true, true, true, true, false, true] rfl))))) (sim_next (x := (g.1, g.2)) [true, true, true, true, true, true, true, true, true, true, true, true, true, true, true, true, false, true] rfl)) (fun g5 => sim_next (x := (g5.1, g5.2)) [true, true, true, true, true, true, false, true, true, true, true, false, false, false, false, true, false, true] rfl))))))
def tb2__law_led_ears  (a : Int) (g : (List Int) × Int) : TR ((List Int) × Int) ((List Int) × Int) (Int × (List (Int × Int)) × (List Bool)) := TR.ob (.ok ((g.2 * (48271 : Int)) % (2147483647 : Int))) fun x19 =>
  TR.ob (((mulT x19 x19).bind fun v20 => .ok (v20 + ((11 : Int) * a))).bind fun v21 => .ok (v21 % (2147483629 : Int))) fun x22 =>
  TR.ob (R.bind (modT (x22 / (8 : Int)) (a + (1 : Int))) fun v24 => R.bind (.ok a) fun v25 => insT g.1 v24 v25) fun x23 =>
  .nx (x23, x22)
theorem hb2__law_led_ears {c0 c1 c2 c3 c4 c5 c9 c10 c11 c12 c13 c14 c15 c16 c17 : Option Sl}  (a : Int) (g : (List Int) × Int) : Sim [c0, c1, c2, c3, c4, c5, some (.im (eI a)), some (.mu (g.1.map eI)), some (.im (eI g.2)), c9, c10, c11, c12, c13, c14, c15, c16, c17] b2__law_led_ears (tb2__law_led_ears a g) (fun g : (List Int) × Int => [c0, c1, c2, c3, c4, c5, none, some (.mu (g.1.map eI)), some (.im (eI g.2)), c9, c10, c11, c12, c13, c14, c15, c16, c17]) (fun g : (List Int) × Int => [c0, c1, c2, c3, c4, c5, none, some (.mu (g.1.map eI)), some (.im (eI g.2)), c9, c10, c11, c12, c13, c14, c15, c16, c17]) keT (eP3 eI (eL (eP eI eI)) (eL eB)) := by
  unfold b2__law_led_ears tb2__law_led_ears
  exact sim_setb (kpT) (ev2pp (ev2pp (ev_I eI g.2) (ev_C eI (48271 : Int)) (rf_mulR)) (ev_C eI (2147483647 : Int)) (rf_modL)) (fun x19 => sim_setb (kpT) (ev2bp (ev2bp (ev2pp (ev_I eI x19) (ev_I eI x19) (rf_mul)) (ev2pp (ev_C eI (11 : Int)) (ev_I eI a) (rf_mulL)) (fun v20 => rf_add)) (ev_C eI (2147483629 : Int)) (fun v21 => rf_modL)) (fun x22 => sim_last (sim_insb (e1 := eI) (kpT) rfl (ev2pp (ev2pp (ev_I eI x22) (ev_C eI (8 : Int)) (rf_fdivL)) (ev2pp (ev_I eI a) (ev_C eI (1 : Int)) (rf_add)) (rf_mod)) (ev_I eI a) (fun x23 => sim_next (x := (x23, x22)) [true, true, true, true, true, true, false, true, true, true, true, true, true, true, true, true, true, true] rfl))))
def ty2__law_led_ears (p_mixed : Int) (a : Int) : R Bool := ((fdivT p_mixed (a + (3 : Int))).bind fun v27 => .ok (v27 % (2 : Int))).bind fun v28 => .ok (decide (v28 = (0 : Int)))
theorem hy2__law_led_ears (p_mixed : Int) (a : Int) : EvE [none, none, none, none, none, none, some (.im (eI a)), none, some (.im (eI p_mixed)), none, none, none, none, none, none, none, none, none] y2__law_led_ears (ty2__law_led_ears p_mixed a) eB := by
  unfold y2__law_led_ears ty2__law_led_ears
  exact ev2bp (ev2bp (ev2pp (ev_I eI p_mixed) (ev2pp (ev_I eI a) (ev_C eI (3 : Int)) (rf_add)) (rf_fdiv)) (ev_C eI (2 : Int)) (fun v27 => rf_modL)) (ev_C eI (0 : Int)) (fun v28 => rf_eq plI)
def tb3__law_led_ears (p_ends_here : List (Int × Int)) (p_order : List Int) (p_onward : List Bool) (a : Int) (g : List (Int × Int)) : TR (List (Int × Int)) (List (Int × Int)) (Int × (List (Int × Int)) × (List Bool)) := TR.ob ((ixT p_order a).bind fun v32 => ixT p_ends_here v32) fun x33 =>
  TR.sq (TR.ob ((ixT p_onward a).map (!·)) fun k36 => cond k36
  (.nx (x33.2, x33.1))
  (.nx x33)) fun g34 =>
  TR.ob (appT g g34) fun x35 =>
  .nx x35
theorem hb3__law_led_ears {c0 c1 c2 c3 c5 c8 c11 c12 c13 c14 c16 c17 : Option Sl} (p_ends_here : List (Int × Int)) (p_order : List Int) (p_onward : List Bool) (a : Int) (g : List (Int × Int)) : Sim [c0, c1, c2, c3, some (.mu (p_ends_here.map (eP eI eI))), c5, some (.im (eI a)), some (.im ((eL eI) p_order)), c8, some (.im ((eL eB) p_onward)), some (.mu (g.map (eP eI eI))), c11, c12, c13, c14, none, c16, c17] b3__law_led_ears (tb3__law_led_ears p_ends_here p_order p_onward a g) (fun g : List (Int × Int) => [c0, c1, c2, c3, some (.mu (p_ends_here.map (eP eI eI))), c5, none, some (.im ((eL eI) p_order)), c8, some (.im ((eL eB) p_onward)), some (.mu (g.map (eP eI eI))), c11, c12, c13, c14, none, c16, c17]) (fun g : List (Int × Int) => [c0, c1, c2, c3, some (.mu (p_ends_here.map (eP eI eI))), c5, none, some (.im ((eL eI) p_order)), c8, some (.im ((eL eB) p_onward)), some (.mu (g.map (eP eI eI))), c11, c12, c13, c14, none, c16, c17]) keT (eP3 eI (eL (eP eI eI)) (eL eB)) := by
  unfold b3__law_led_ears tb3__law_led_ears
  exact sim_setb (kpT) (ev2pb (ev_Ls (ev_Vm (eP eI eI) p_ends_here)) (ev2pp (ev_Ls (ev_V eI p_order)) (ev_I eI a) (rf_ixL)) (fun v32 => rf_ixL)) (fun x33 => sim_seq (out1 := (fun g34 : Int × Int => [c0, c1, c2, c3, some (.mu (p_ends_here.map (eP eI eI))), c5, some (.im (eI a)), some (.im ((eL eI) p_order)), c8, some (.im ((eL eB) p_onward)), some (.mu (g.map (eP eI eI))), c11, c12, c13, c14, some (.im ((eP eI eI) g34)), c16, c17])) (sim_ifb (kpT) (ev_notb (ev2pp (ev_I (eL eB) p_onward) (ev_I eI a) (rf_ixL))) (sim_last (sim_set (ev_A (eva_p (ev2pp (ev_I (eP eI eI) x33) (ev_C eI (1 : Int)) (rf_ixP1)) (eva_p (ev2pp (ev_I (eP eI eI) x33) (ev_C eI (0 : Int)) (rf_ixP0)) (eva_nil (rf_P (e1 := eI) (e2 := eI)))))) (sim_next (x := (x33.2, x33.1)) [true, true, true, true, true, true, true, true, true, true, true, true, true, true, true, true, true, true] rfl))) (sim_next (x := x33) [true, true, true, true, true, true, true, true, true, true, true, true, true, true, true, true, true, true] rfl)) (fun g34 => sim_last (sim_mut (e2 := (eP eI eI)) (l := g) rfl (ev_I (eP eI eI) g34) ro_app (fun x35 => sim_next (x := x35) [true, true, true, true, true, true, false, true, true, true, true, true, true, true, true, false, true, true] rfl))))
def t__law_led_ears (p_script : List Int) (p_at : Int) (p_most : Int) (p_bound : Int) : R (Int × (List (Int × Int)) × (List Bool)) := TR.out (Γ := Unit) (TR.sq (TR.ob (range2T p_at (p_script.length : Int)) fun l43 => forT (tb1__law_led_ears p_script p_most p_bound) l43 (([] : List (Int × Int)), (1 : Int))) fun g15 =>
  TR.ob (((t__law_cell p_script (1 : Int)).bind fun v16 => .ok (v16 % (1000000007 : Int))).bind fun v17 => .ok ((1 : Int) + v17)) fun x18 =>
  TR.sq (TR.ob (rangeT (g15.1.length : Int)) fun l41 => forT (tb2__law_led_ears) l41 (([] : List Int), x18)) fun g26 =>
  TR.ob (fLcT (fun _ => .ok true) (ty2__law_led_ears g26.2) g26.1) fun x31 =>
  TR.sq (TR.ob (rangeT (g26.1.length : Int)) fun l39 => forT (tb3__law_led_ears g15.1 g26.1 x31) l39 ([] : List (Int × Int))) fun g37 =>
  .rt (g15.2, g37, x31)) .no
theorem h__law_led_ears (p_script : List Int) (p_at : Int) (p_most : Int) (p_bound : Int) : RefR (m__law_led_ears [eR p_script, eI p_at, eI p_most, eI p_bound]) (t__law_led_ears p_script p_at p_most p_bound) (eP3 eI (eL (eP eI eI)) (eL eB)) := by
  unfold t__law_led_ears
  refine ref_def (n := n__law_led_ears.length) (fl := [true, true, true, true]) (g := g__law_led_ears) (out := fun _ => [none, none, none, none, none, none, none, none, none, none, none, none, none, none, none, none, none, none]) (c := [some (.im (eR p_script)), some (.im (eI p_at)), some (.im (eI p_most)), some (.im (eI p_bound)), none, none, none, none, none, none, none, none, none, none, none, none, none, none]) rfl (.som (.som (.som (.som (.non (.non (.non (.non (.non (.non (.non (.non (.non (.non (.non (.non (.non (.non .nil)))))))))))))))))) ?_ (.inr rfl)
  unfold g__law_led_ears
  exact sim_setM (ev_A (eva_nil (rf_lst (l := ([] : List (Int × Int))) (e := (eP eI eI))))) (sim_set (ev_C eI (1 : Int)) (sim_seq (sim_forb (e1 := eI) (kpT) (tb1__law_led_ears p_script p_most p_bound) (fun g15 : (List (Int × Int)) × Int => [some (.im (eR p_script)), some (.im (eI p_at)), some (.im (eI p_most)), some (.im (eI p_bound)), some (.mu (g15.1.map (eP eI eI))), some (.im (eI g15.2)), none, none, none, none, none, none, none, none, none, none, none, none]) [true, true, true, true, true, true, false, false, false, false, false, false, false, false, false, false, false, false] (ev_A (eva_p (ev_I eI p_at) (eva_p (ev_A (eva_p (ev_I eR p_script) (eva_nil (rf_lenR)))) (eva_nil (rf_range2))))) (fun a42 g15 => ⟨_, evt_N, hb1__law_led_ears p_script p_most p_bound a42 g15⟩) rfl) (fun g15 => sim_setM (ev_A (eva_nil (rf_lst (l := ([] : List Int)) (e := eI)))) (sim_setb (kpT) (ev2pb (ev_C eI (1 : Int)) (ev2bp (ev_A (eva_p (ev_I eR p_script) (eva_p (ev_C eI (1 : Int)) (eva_nil (h__law_cell p_script (1 : Int)))))) (ev_C eI (1000000007 : Int)) (fun v16 => rf_modL)) (fun v17 => rf_add)) (fun x18 => sim_seq (sim_forb (e1 := eI) (kpT) (tb2__law_led_ears) (fun g26 : (List Int) × Int => [some (.im (eR p_script)), some (.im (eI p_at)), some (.im (eI p_most)), some (.im (eI p_bound)), some (.mu (g15.1.map (eP eI eI))), some (.im (eI g15.2)), none, some (.mu (g26.1.map eI)), some (.im (eI g26.2)), none, none, none, none, none, none, none, none, none]) [true, true, true, true, true, true, false, true, true, false, false, false, false, false, false, false, false, false] (ev_A (eva_p (ev_A (eva_p (ev_Lm (eP eI eI) g15.1) (eva_nil (rf_lenL)))) (eva_nil (rf_range)))) (fun a40 g26 => ⟨_, evt_N, hb2__law_led_ears a40 g26⟩) rfl) (fun g26 => sim_frz rfl (sim_setb (kpT) (ev_Ls (ev_lcp (ea := eI) (eb := eB) (tst := (fun _ => .ok true)) (y := (ty2__law_led_ears g26.2)) (ev1p (ev_I (eL eI) g26.1) (rf_seqL)) (fun a30 => ⟨_, evt_N, ev_C eB true, ev_w [false, false, false, false, false, false, true, false, true, false, false, false, false, false, false, false, false, false] (hy2__law_led_ears g26.2 a30)⟩))) (fun x31 => sim_setM (ev_A (eva_nil (rf_lst (l := ([] : List (Int × Int))) (e := (eP eI eI))))) (sim_seq (sim_forb (e1 := eI) (kpT) (tb3__law_led_ears g15.1 g26.1 x31) (fun g37 : List (Int × Int) => [some (.im (eR p_script)), some (.im (eI p_at)), some (.im (eI p_most)), some (.im (eI p_bound)), some (.mu (g15.1.map (eP eI eI))), some (.im (eI g15.2)), none, some (.im ((eL eI) g26.1)), some (.im (eI g26.2)), some (.im ((eL eB) x31)), some (.mu (g37.map (eP eI eI))), none, none, none, none, none, none, none]) [true, true, true, true, true, true, false, true, true, true, true, false, false, false, false, false, false, false] (ev_A (eva_p (ev_A (eva_p (ev_L (eL eI) g26.1) (eva_nil (rf_lenL)))) (eva_nil (rf_range)))) (fun a38 g37 => ⟨_, evt_N, hb3__law_led_ears g15.1 g26.1 x31 a38 g37⟩) rfl) (fun g37 => sim_frz rfl (sim_ret (ev_A (eva_p (ev_I eI g15.2) (eva_p (ev_I (eL (eP eI eI)) g37) (eva_p (ev_I (eL eB) x31) (eva_nil (rf_P3 (e1 := eI) (e2 := (eL (eP eI eI))) (e3 := (eL eB)))))))))))))))))))
def tb1__law_come (p_ends_here : List (Int × Int)) (p_directions : List Bool) (p_at : Int) (a : Int) (g : (List Int) × (List Int)) : TR ((List Int) × (List Int)) ((List Int) × (List Int)) (List Int) := TR.ob (ixT p_ends_here a) fun x4 =>
  TR.sq (TR.ob ((ixT p_directions a).map (!·)) fun k9 => cond k9
  (.nx (x4.2, x4.1))
  (.nx (x4.1, x4.2))) fun g5 =>
  TR.sq (cond ((decide (g5.1 = p_at)) && (!(decide (g5.2 ∈ g.1))))
  (TR.ob (appT g.1 g5.2) fun x7 =>
  TR.ob (appT g.2 g5.2) fun x8 =>
  .nx (x7, x8))
  (.nx (g.1, g.2))) fun g6 =>
  .nx (g6.1, g6.2)
theorem hb1__law_come {c2 : Option Sl} (p_ends_here : List (Int × Int)) (p_directions : List Bool) (p_at : Int) (a : Int) (g : (List Int) × (List Int)) : Sim [some (.im ((eL (eP eI eI)) p_ends_here)), some (.im ((eL eB) p_directions)), c2, some (.mu (g.1.map eI)), some (.mu (g.2.map eI)), some (.im (eI p_at)), some (.im (eI a)), none, none] b1__law_come (tb1__law_come p_ends_here p_directions p_at a g) (fun g : (List Int) × (List Int) => [some (.im ((eL (eP eI eI)) p_ends_here)), some (.im ((eL eB) p_directions)), c2, some (.mu (g.1.map eI)), some (.mu (g.2.map eI)), some (.im (eI p_at)), none, none, none]) (fun g : (List Int) × (List Int) => [some (.im ((eL (eP eI eI)) p_ends_here)), some (.im ((eL eB) p_directions)), c2, some (.mu (g.1.map eI)), some (.mu (g.2.map eI)), some (.im (eI p_at)), none, none, none]) keT (eL eI) := by
  unfold b1__law_come tb1__law_come
  exact sim_unpb (kpT) (ev2pp (ev_I (eL (eP eI eI)) p_ends_here) (ev_I eI a) (rf_ixL)) (fun x4 => evt_T rfl (evts_cons (evt_N) (evts_cons (evt_N) (evts_nil)))) (fun x4 => sim_seq (out1 := (fun g5 : Int × Int => [some (.im ((eL (eP eI eI)) p_ends_here)), some (.im ((eL eB) p_directions)), c2, some (.mu (g.1.map eI)), some (.mu (g.2.map eI)), some (.im (eI p_at)), some (.im (eI a)), some (.im (eI g5.1)), some (.im (eI g5.2))])) (sim_ifb (kpT) (ev_notb (ev2pp (ev_I (eL eB) p_directions) (ev_I eI a) (rf_ixL))) (sim_last (sim_par (ev_I eI x4.2) (ev_I eI x4.1) (sim_next (x := (x4.2, x4.1)) [true, true, true, true, true, true, true, true, true] rfl))) (sim_next (x := (x4.1, x4.2)) [true, true, true, true, true, true, true, true, true] rfl)) (fun g5 => sim_last (sim_seq (out1 := (fun g6 : (List Int) × (List Int) => [some (.im ((eL (eP eI eI)) p_ends_here)), some (.im ((eL eB) p_directions)), c2, some (.mu (g6.1.map eI)), some (.mu (g6.2.map eI)), some (.im (eI p_at)), some (.im (eI a)), some (.im (eI g5.1)), some (.im (eI g5.2))])) (sim_if (ev_andp (ev2pp (ev_I eI g5.1) (ev_I eI p_at) (rf_eq plI)) (ev2pp (ev_I eI g5.2) (ev_Lm eI g.1) (rf_nin rf_inL))) (sim_mut (e2 := eI) (l := g.1) rfl (ev_I eI g5.2) ro_app (fun x7 => sim_last (sim_mut (e2 := eI) (l := g.2) rfl (ev_I eI g5.2) ro_app (fun x8 => sim_next (x := (x7, x8)) [true, true, true, true, true, true, true, true, true] rfl)))) (sim_next (x := (g.1, g.2)) [true, true, true, true, true, true, true, true, true] rfl)) (fun g6 => sim_next (x := (g6.1, g6.2)) [true, true, true, true, true, true, false, false, false] rfl))))
def tc1__law_come (p_ends_here : List (Int × Int)) (p_directions : List Bool) (g : (List Int) × (List Int)) : R Bool := (.ok (!decide (g.2 = ([] : List Int))))
theorem hc1__law_come {c2 : Option Sl} (p_ends_here : List (Int × Int)) (p_directions : List Bool) (g : (List Int) × (List Int)) : EvE [some (.im ((eL (eP eI eI)) p_ends_here)), some (.im ((eL eB) p_directions)), c2, some (.mu (g.1.map eI)), some (.mu (g.2.map eI)), none, none, none, none] c1__law_come (tc1__law_come p_ends_here p_directions g) eB := by
  unfold c1__law_come tc1__law_come
  exact ev2pp (ev_Lm eI g.2) (ev_Ls (ev_A (eva_nil (rf_lst (l := ([] : List Int)) (e := eI))))) (rf_ne (plL plI))
def tw1__law_come (p_ends_here : List (Int × Int)) (p_directions : List Bool) (g : (List Int) × (List Int)) : TR ((List Int) × (List Int)) ((List Int) × (List Int)) (List Int) := TR.ob (popT g.2) fun x3 =>
  TR.sq (TR.ob (rangeT (p_ends_here.length : Int)) fun l12 => forT (tb1__law_come p_ends_here p_directions x3.2) l12 (g.1, x3.1)) fun g10 =>
  .nx (g10.1, g10.2)
theorem hw1__law_come {c2 : Option Sl} (p_ends_here : List (Int × Int)) (p_directions : List Bool) (g : (List Int) × (List Int)) : Sim [some (.im ((eL (eP eI eI)) p_ends_here)), some (.im ((eL eB) p_directions)), c2, some (.mu (g.1.map eI)), some (.mu (g.2.map eI)), none, none, none, none] w1__law_come (tw1__law_come p_ends_here p_directions g) (fun g : (List Int) × (List Int) => [some (.im ((eL (eP eI eI)) p_ends_here)), some (.im ((eL eB) p_directions)), c2, some (.mu (g.1.map eI)), some (.mu (g.2.map eI)), none, none, none, none]) (fun g : (List Int) × (List Int) => [some (.im ((eL (eP eI eI)) p_ends_here)), some (.im ((eL eB) p_directions)), c2, some (.mu (g.1.map eI)), some (.mu (g.2.map eI)), none, none, none, none]) keT (eL eI) := by
  unfold w1__law_come tw1__law_come
  exact sim_pop rfl (fun x3 => sim_last (sim_seq (sim_forb (e1 := eI) (kpT) (tb1__law_come p_ends_here p_directions x3.2) (fun g10 : (List Int) × (List Int) => [some (.im ((eL (eP eI eI)) p_ends_here)), some (.im ((eL eB) p_directions)), c2, some (.mu (g10.1.map eI)), some (.mu (g10.2.map eI)), some (.im (eI x3.2)), none, none, none]) [true, true, true, true, true, true, false, false, false] (ev_A (eva_p (ev_A (eva_p (ev_I (eL (eP eI eI)) p_ends_here) (eva_nil (rf_lenL)))) (eva_nil (rf_range)))) (fun a11 g10 => ⟨_, evt_N, hb1__law_come p_ends_here p_directions x3.2 a11 g10⟩) rfl) (fun g10 => sim_next (x := (g10.1, g10.2)) [true, true, true, true, true, false, false, false, false] rfl)))
def t__law_come (p_ends_here : List (Int × Int)) (p_directions : List Bool) (p_place : Int) : R (List Int) := TR.out (Γ := Unit) (TR.ob (.ok ([p_place] : List Int)) fun x1 =>
  TR.ob (.ok ([p_place] : List Int)) fun x2 =>
  TR.sq (whT (tc1__law_come p_ends_here p_directions) (tw1__law_come p_ends_here p_directions) 1000 (x1, x2)) fun g13 =>
  .rt g13.1) .no
theorem h__law_come (p_ends_here : List (Int × Int)) (p_directions : List Bool) (p_place : Int) : RefR (m__law_come [(eL (eP eI eI)) p_ends_here, (eL eB) p_directions, eI p_place]) (t__law_come p_ends_here p_directions p_place) (eL eI) := by
  unfold t__law_come
  refine ref_defN (n := n__law_come.length) (fl := [true, true, true]) (g := g__law_come) (out := fun _ => [none, none, none, none, none, none, none, none, none]) (c := [some (.im ((eL (eP eI eI)) p_ends_here)), some (.im ((eL eB) p_directions)), some (.im (eI p_place)), none, none, none, none, none, none]) rfl (.som (.som (.som (.non (.non (.non (.non (.non (.non .nil))))))))) ?_
  unfold g__law_come
  exact sim_setMb (kpT) (ev_A (eva_p (ev_I eI p_place) (eva_nil (rf_lst (l := ([p_place] : List Int)) (e := eI))))) (fun x1 => sim_setMb (kpT) (ev_A (eva_p (ev_I eI p_place) (eva_nil (rf_lst (l := ([p_place] : List Int)) (e := eI))))) (fun x2 => sim_seq (sim_while (tc1__law_come p_ends_here p_directions) (tw1__law_come p_ends_here p_directions) (fun g13 : (List Int) × (List Int) => [some (.im ((eL (eP eI eI)) p_ends_here)), some (.im ((eL eB) p_directions)), some (.im (eI p_place)), some (.mu (g13.1.map eI)), some (.mu (g13.2.map eI)), none, none, none, none]) [true, true, true, true, true, false, false, false, false] (fun _ => kpT) (fun g13 => hc1__law_come p_ends_here p_directions g13) (fun g13 => hw1__law_come p_ends_here p_directions g13) rfl) (fun g13 => sim_retM (x := g13.1) (e := (eL eI)) rfl rfl)))
def ty1__law_whirl (p_ends_here : List (Int × Int)) (p_directions : List Bool) (a : Int) : R (List Int) := t__law_come p_ends_here p_directions a
theorem hy1__law_whirl (p_ends_here : List (Int × Int)) (p_directions : List Bool) (a : Int) : EvE [none, some (.im ((eL (eP eI eI)) p_ends_here)), some (.im ((eL eB) p_directions)), none, none, none, none, some (.im (eI a))] y1__law_whirl (ty1__law_whirl p_ends_here p_directions a) (eL eI) := by
  unfold y1__law_whirl ty1__law_whirl
  exact ev_Ls (ev_A (eva_p (ev_I (eL (eP eI eI)) p_ends_here) (eva_p (ev_I (eL eB) p_directions) (eva_p (ev_I eI a) (eva_nil (h__law_come p_ends_here p_directions a))))))
def tb1__law_whirl (p_ends_here : List (Int × Int)) (p_directions : List Bool) (p_there : List (List Int)) (a : Int) (g : Unit) : TR Unit Unit Bool := TR.ob (ixT p_ends_here a) fun x5 =>
  TR.sq (TR.ob ((ixT p_directions a).map (!·)) fun k10 => cond k10
  (.nx (x5.2, x5.1))
  (.nx (x5.1, x5.2))) fun g6 =>
  TR.sq (TR.ob ((ixT p_there g6.2).bind fun v7 => .ok (!(decide (g6.1 ∈ v7)))) fun k9 => cond k9
  (.rt false)
  (.nx ())) fun g8 =>
  .nx ()
theorem hb1__law_whirl {c0 c7 : Option Sl} (p_ends_here : List (Int × Int)) (p_directions : List Bool) (p_there : List (List Int)) (a : Int) (g : Unit) : Sim [c0, some (.im ((eL (eP eI eI)) p_ends_here)), some (.im ((eL eB) p_directions)), some (.im ((eL (eL eI)) p_there)), some (.im (eI a)), none, none, c7] b1__law_whirl (tb1__law_whirl p_ends_here p_directions p_there a g) (fun g : Unit => [c0, some (.im ((eL (eP eI eI)) p_ends_here)), some (.im ((eL eB) p_directions)), some (.im ((eL (eL eI)) p_there)), none, none, none, c7]) (fun g : Unit => [c0, some (.im ((eL (eP eI eI)) p_ends_here)), some (.im ((eL eB) p_directions)), some (.im ((eL (eL eI)) p_there)), none, none, none, c7]) keT eB := by
  unfold b1__law_whirl tb1__law_whirl
  exact sim_unpb (kpT) (ev2pp (ev_I (eL (eP eI eI)) p_ends_here) (ev_I eI a) (rf_ixL)) (fun x5 => evt_T rfl (evts_cons (evt_N) (evts_cons (evt_N) (evts_nil)))) (fun x5 => sim_seq (out1 := (fun g6 : Int × Int => [c0, some (.im ((eL (eP eI eI)) p_ends_here)), some (.im ((eL eB) p_directions)), some (.im ((eL (eL eI)) p_there)), some (.im (eI a)), some (.im (eI g6.1)), some (.im (eI g6.2)), c7])) (sim_ifb (kpT) (ev_notb (ev2pp (ev_I (eL eB) p_directions) (ev_I eI a) (rf_ixL))) (sim_last (sim_par (ev_I eI x5.2) (ev_I eI x5.1) (sim_next (x := (x5.2, x5.1)) [true, true, true, true, true, true, true, true] rfl))) (sim_next (x := (x5.1, x5.2)) [true, true, true, true, true, true, true, true] rfl)) (fun g6 => sim_last (sim_seq (out1 := (fun g8 : Unit => [c0, some (.im ((eL (eP eI eI)) p_ends_here)), some (.im ((eL eB) p_directions)), some (.im ((eL (eL eI)) p_there)), some (.im (eI a)), some (.im (eI g6.1)), some (.im (eI g6.2)), c7])) (sim_ifb (kpT) (ev2pb (ev_I eI g6.1) (ev2pp (ev_I (eL (eL eI)) p_there) (ev_I eI g6.2) (rf_ixL)) (fun v7 => rf_nin rf_inL)) (sim_ret (ev_C eB false)) (sim_next (x := ()) [true, true, true, true, true, true, true, true] rfl)) (fun g8 => sim_next (x := ()) [true, true, true, true, false, false, false, true] rfl))))
def t__law_whirl (p_many : Int) (p_ends_here : List (Int × Int)) (p_directions : List Bool) : R Bool := TR.out (Γ := Unit) (TR.ob ((rangeT p_many).bind fun l3 => fLcT (fun _ => .ok true) (ty1__law_whirl p_ends_here p_directions) l3) fun x4 =>
  TR.sq (TR.ob (rangeT (p_ends_here.length : Int)) fun l13 => forT (tb1__law_whirl p_ends_here p_directions x4) l13 ()) fun g11 =>
  .rt true) .no
theorem h__law_whirl (p_many : Int) (p_ends_here : List (Int × Int)) (p_directions : List Bool) : RefR (m__law_whirl [eI p_many, (eL (eP eI eI)) p_ends_here, (eL eB) p_directions]) (t__law_whirl p_many p_ends_here p_directions) eB := by
  unfold t__law_whirl
  refine ref_def (n := n__law_whirl.length) (fl := [true, true, true]) (g := g__law_whirl) (out := fun _ => [none, none, none, none, none, none, none, none]) (c := [some (.im (eI p_many)), some (.im ((eL (eP eI eI)) p_ends_here)), some (.im ((eL eB) p_directions)), none, none, none, none, none]) rfl (.som (.som (.som (.non (.non (.non (.non (.non .nil)))))))) ?_ (.inr rfl)
  unfold g__law_whirl
  exact sim_setb (kpT) (ev_Ls (ev_lc (ea := eI) (eb := (eL eI)) (tst := (fun _ => .ok true)) (y := (ty1__law_whirl p_ends_here p_directions)) (ev_A (eva_p (ev_I eI p_many) (eva_nil (rf_range)))) (fun a2 => ⟨_, evt_N, ev_C eB true, ev_w [false, true, true, false, false, false, false, true] (hy1__law_whirl p_ends_here p_directions a2)⟩))) (fun x4 => sim_seq (sim_forb (e1 := eI) (kpT) (tb1__law_whirl p_ends_here p_directions x4) (fun g11 : Unit => [some (.im (eI p_many)), some (.im ((eL (eP eI eI)) p_ends_here)), some (.im ((eL eB) p_directions)), some (.im ((eL (eL eI)) x4)), none, none, none, none]) [true, true, true, true, false, false, false, false] (ev_A (eva_p (ev_A (eva_p (ev_I (eL (eP eI eI)) p_ends_here) (eva_nil (rf_lenL)))) (eva_nil (rf_range)))) (fun a12 g11 => ⟨_, evt_N, hb1__law_whirl p_ends_here p_directions x4 a12 g11⟩) rfl) (fun g11 => sim_ret (ev_C eB true)))
def tb1__law_turns  (a : Int) (g : Int × (List Bool)) : TR (Int × (List Bool)) (Int × (List Bool)) (List Bool) := TR.ob (appT g.2 (decide (g.1 % (2 : Int) = (1 : Int)))) fun x2 =>
  .nx (g.1 / (2 : Int), x2)
theorem hb1__law_turns {c0 c1 : Option Sl}  (a : Int) (g : Int × (List Bool)) : Sim [c0, c1, some (.im (eI g.1)), some (.mu (g.2.map eB)), some (.im (eI a))] b1__law_turns (tb1__law_turns a g) (fun g : Int × (List Bool) => [c0, c1, some (.im (eI g.1)), some (.mu (g.2.map eB)), none]) (fun g : Int × (List Bool) => [c0, c1, some (.im (eI g.1)), some (.mu (g.2.map eB)), none]) keT (eL eB) := by
  unfold b1__law_turns tb1__law_turns
  exact sim_mut (e2 := eB) (l := g.2) rfl (ev2pp (ev2pp (ev_I eI g.1) (ev_C eI (2 : Int)) (rf_modL)) (ev_C eI (1 : Int)) (rf_eq plI)) ro_app (fun x2 => sim_last (sim_set (ev2pp (ev_I eI g.1) (ev_C eI (2 : Int)) (rf_fdivL)) (sim_next (x := (g.1 / (2 : Int), x2)) [true, true, true, true, false] rfl)))
def t__law_turns (p_cell_here : Int) (p_many : Int) : R (List Bool) := TR.out (Γ := Unit) (TR.ob (.ok (p_cell_here.natAbs : Int)) fun x1 =>
  TR.sq (TR.ob (rangeT p_many) fun l5 => forT (tb1__law_turns) l5 (x1, ([] : List Bool))) fun g3 =>
  .rt g3.2) .no
theorem h__law_turns (p_cell_here : Int) (p_many : Int) : RefR (m__law_turns [eI p_cell_here, eI p_many]) (t__law_turns p_cell_here p_many) (eL eB) := by
  unfold t__law_turns
  refine ref_defN (n := n__law_turns.length) (fl := [true, true]) (g := g__law_turns) (out := fun _ => [none, none, none, none, none]) (c := [some (.im (eI p_cell_here)), some (.im (eI p_many)), none, none, none]) rfl (.som (.som (.non (.non (.non .nil))))) ?_
  unfold g__law_turns
  exact sim_setb (kpT) (ev_A (eva_p (ev_I eI p_cell_here) (eva_nil (rf_abs)))) (fun x1 => sim_setM (ev_A (eva_nil (rf_lst (l := ([] : List Bool)) (e := eB)))) (sim_seq (sim_forb (e1 := eI) (kpT) (tb1__law_turns) (fun g3 : Int × (List Bool) => [some (.im (eI p_cell_here)), some (.im (eI p_many)), some (.im (eI g3.1)), some (.mu (g3.2.map eB)), none]) [true, true, true, true, false] (ev_A (eva_p (ev_I eI p_many) (eva_nil (rf_range)))) (fun a4 g3 => ⟨_, evt_N, hb1__law_turns a4 g3⟩) rfl) (fun g3 => sim_retM (x := g3.2) (e := (eL eB)) rfl rfl)))
def tb1__law_refused {Λ : Type} (p_web : W) (p_found : Unit) : TR Λ (Option (List Bool)) Bool := TR.ob (t_how_many_whirls p_web) fun _x1 =>
  .nx none
theorem hb1__law_refused {Λ : Type} {lo : Λ → Ce} (p_web : W) (p_found : Unit) : Sim [some (.im (eW p_web)), some (.im (eN p_found)), none] b1__law_refused (tb1__law_refused p_web p_found) (fun g : Option (List Bool) => [some (.im (eW p_web)), some (.im ((eO (eL eB)) g)), none]) lo (Has [some (.im (eW p_web)), some (.im (eN p_found)), none]) eB := by
  unfold b1__law_refused tb1__law_refused
  exact sim_last (sim_dropb (kpM [true, true, false]) (ev_A (eva_p (ev_I eW p_web) (eva_nil (h_how_many_whirls p_web)))) (fun _x1 => sim_next (x := none) [true, true, false] rfl))
def th1__law_refused {Λ : Type} (p_web : W) (p_found : Unit) (k : Nat) : TR Λ (Option (List Bool)) Bool := TR.ob ((isoTb [(2, false), (3, false), (4, true), (5, false), (6, false), (7, false), (8, false), (10, false), (11, false)] k).bind fun v2 => (t__law_alone k).bind fun v3 => .ok ([v2, v3] : List Bool)) fun x4 =>
  .nx (some x4)
theorem hh1__law_refused {Λ : Type} {lo : Λ → Ce} (p_web : W) (p_found : Unit) (k : Nat) : Sim [some (.im (eW p_web)), some (.im (eN p_found)), some (.im (eX k))] h1__law_refused (th1__law_refused p_web p_found k) (fun g : Option (List Bool) => [some (.im (eW p_web)), some (.im ((eO (eL eB)) g)), none]) lo keT eB := by
  unfold h1__law_refused th1__law_refused
  exact sim_last (sim_setb (kpT) (ev_Ls (ev_A (eva_b (ev1p (ev_I eX k) (rf_isoX)) (fun v2 => eva_b (ev_A (eva_p (ev_I eX k) (eva_nil (h__law_alone k)))) (fun v3 => eva_nil (rf_lst (l := ([v2, v3] : List Bool)) (e := eB))))))) (fun x4 => sim_next (x := (some x4)) [true, true, false] rfl))
def t__law_refused (p_web : W) : R Bool := TR.out (Γ := Unit) (TR.sq (TR.tr (tb1__law_refused p_web ()) [(2, true), (3, true), (4, true), (5, true), (6, true), (7, true), (8, true), (9, true), (10, true), (11, true), (12, true), (13, true)] fun k => th1__law_refused p_web () k) fun g5 =>
  .rt (decide (g5 = some ([true, true] : List Bool)))) .no
theorem h__law_refused (p_web : W) : RefR (m__law_refused [eW p_web]) (t__law_refused p_web) eB := by
  unfold t__law_refused
  refine ref_def (n := n__law_refused.length) (fl := [true]) (g := g__law_refused) (out := fun _ => [none, none, none]) (c := [some (.im (eW p_web)), none, none]) rfl (.som (.non (.non .nil))) ?_ (.inr rfl)
  unfold g__law_refused
  exact sim_set (ev_C eN ()) (sim_seq (sim_try (out := (fun g5 : Option (List Bool) => [some (.im (eW p_web)), some (.im ((eO (eL eB)) g5)), none])) (ck := [some (.im (eW p_web)), some (.im (eN ())), none]) (fun _ => rfl) (fun x => by first | rfl | exact nomatch x) (kpT) (hb1__law_refused p_web ()) (fun k => hh1__law_refused p_web () k)) (fun g5 => sim_ret (ev2pp (ev_I (eO (eL eB)) g5) (ev_cop (e := (eO (eL eB))) (y := (some ([true, true] : List Bool))) (ev_Ls (ev_A (eva_p (ev_C eB true) (eva_p (ev_C eB true) (eva_nil (rf_lst (l := ([true, true] : List Bool)) (e := eB)))))))) (rf_eq (plO (plL plB))))))
def t__law_is (p_web : W) (p_due : Int) : R Bool := TR.out (Γ := Unit) (TR.ob (t_how_many_whirls p_web) fun x1 =>
  TR.ob ((t__law_whole x1).bind fun k2 => cond k2 (.ok (decide (x1 = p_due))) (.ok false)) .rt) .no
theorem h__law_is (p_web : W) (p_due : Int) : RefR (m__law_is [eW p_web, eI p_due]) (t__law_is p_web p_due) eB := by
  unfold t__law_is
  refine ref_def (n := n__law_is.length) (fl := [true, true]) (g := g__law_is) (out := fun _ => [none, none, none]) (c := [some (.im (eW p_web)), some (.im (eI p_due)), none]) rfl (.som (.som (.non .nil))) ?_ (.inr rfl)
  unfold g__law_is
  exact sim_setb (kpT) (ev_A (eva_p (ev_I eW p_web) (eva_nil (h_how_many_whirls p_web)))) (fun x1 => sim_retb (kpT) (ev_andb (ev_A (eva_p (ev_I eI x1) (eva_nil (h__law_whole x1)))) (ev2pp (ev_I eI x1) (ev_I eI p_due) (rf_eq plI))))
def tb1_law (p_many : Int) (p_ends_here : List (Int × Int)) (a : Int) (g : Int) : TR Int Int Bool := TR.ob ((((t__law_turns a (p_ends_here.length : Int)).bind fun v7 => t__law_whirl p_many p_ends_here v7).bind fun v8 => .ok (cond v8 (1 : Int) 0)).bind fun v9 => .ok (g + v9)) fun x10 =>
  .nx x10
theorem hb1_law {c0 c5 c6 c7 c8 c9 c10 c11 : Option Sl} (p_many : Int) (p_ends_here : List (Int × Int)) (a : Int) (g : Int) : Sim [c0, some (.im (eI p_many)), some (.im ((eL (eP eI eI)) p_ends_here)), some (.im (eI g)), some (.im (eI a)), c5, c6, c7, c8, c9, c10, c11] b1_law (tb1_law p_many p_ends_here a g) (fun g : Int => [c0, some (.im (eI p_many)), some (.im ((eL (eP eI eI)) p_ends_here)), some (.im (eI g)), none, c5, c6, c7, c8, c9, c10, c11]) (fun g : Int => [c0, some (.im (eI p_many)), some (.im ((eL (eP eI eI)) p_ends_here)), some (.im (eI g)), none, c5, c6, c7, c8, c9, c10, c11]) keT eB := by
  unfold b1_law tb1_law
  exact sim_last (sim_setb (kpT) (ev2pb (ev_I eI g) (ev_A (eva_b (ev_A (eva_p (ev_I eI p_many) (eva_p (ev_I (eL (eP eI eI)) p_ends_here) (eva_b (ev_Ls (ev_A (eva_p (ev_I eI a) (eva_p (ev_A (eva_p (ev_I (eL (eP eI eI)) p_ends_here) (eva_nil (rf_lenL)))) (eva_nil (h__law_turns a (p_ends_here.length : Int))))))) (fun v7 => eva_nil (h__law_whirl p_many p_ends_here v7)))))) (fun v8 => eva_nil (rf_intb)))) (fun v9 => rf_add)) (fun x10 => sim_next (x := x10) [true, true, true, true, false, true, true, true, true, true, true, true] rfl))
def ty1_law (p_many : Int) (a : Int × Int) : R (Int × Int) := (.ok (a.1 + p_many, a.2 + p_many))
theorem hy1_law (p_many : Int) (a : Int × Int) : EvE [none, some (.im (eI p_many)), none, none, none, none, none, none, none, none, some (.im (eI a.1)), some (.im (eI a.2))] y1_law (ty1_law p_many a) (eP eI eI) := by
  unfold y1_law ty1_law
  exact ev_A (eva_p (ev2pp (ev_I eI a.1) (ev_I eI p_many) (rf_add)) (eva_p (ev2pp (ev_I eI a.2) (ev_I eI p_many) (rf_add)) (eva_nil (rf_P (e1 := eI) (e2 := eI)))))
def t_law (p_script : List Int) : R Bool := TR.out (Γ := Unit) (TR.ob (t__law_drawn p_script (5 : Int) (6 : Int)) fun x1 =>
  TR.sq (TR.ob (((t__law_cell p_script (0 : Int)).bind fun v2 => .ok (v2 % (2 : Int))).bind fun v3 => .ok (decide (v3 = (1 : Int)))) fun k37 => cond k37
  (TR.ob (t__law_led_ears p_script (2 : Int) (5 : Int) (6 : Int)) fun x5 =>
  .nx (x5.1, x5.2.1))
  (.nx (x1.1, x1.2))) fun g4 =>
  TR.sq (TR.ob ((shlT (1 : Int) (g4.2.length : Int)).bind fun v6 => rangeT v6) fun l36 => forT (tb1_law g4.1 g4.2) l36 (0 : Int)) fun g11 =>
  TR.ob (((mkW g4.1 g4.2).bind fun v12 => t__law_is v12 g11).map (!·)) fun k34 => cond k34
  (TR.up (.rt false))
  (TR.ob ((fLcT (fun _ => .ok true) (ty1_law g4.1) g4.2).bind fun v15 => catT g4.2 v15) fun x16 =>
  TR.ob (((mkW ((2 : Int) * g4.1) x16).bind fun v17 => (mulT g11 g11).bind fun v18 => t__law_is v17 v18).map (!·)) fun k33 => cond k33
  (TR.up (.rt false))
  (TR.ob (modT p_script.sum g4.1) fun x19 =>
  TR.ob (rep1 (x19, x19) ((12 : Int) - (g4.2.length : Int))) fun x20 =>
  TR.ob ((((catT x20 g4.2).bind fun v21 => mkW g4.1 v21).bind fun v22 => (shlT g11 (x20.length : Int)).bind fun v23 => t__law_is v22 v23).map (!·)) fun k32 => cond k32
  (TR.up (.rt false))
  (TR.ob (rep1 ((0 : Int), (0 : Int)) ((1 : Int) + (p_script.sum % (28 : Int)))) fun x24 =>
  TR.ob (((((catT g4.2 x20).bind fun v25 => catT v25 ([(x19, (0 : Int))] : List (Int × Int))).bind fun v26 => mkW g4.1 v26).bind fun v27 => t__law_refused v27).map (!·)) fun k31 => cond k31
  (TR.up (.rt false))
  (TR.ob ((((catT x20 g4.2).bind fun v28 => catT v28 x24).bind fun v29 => mkW g4.1 v29).bind fun v30 => t__law_refused v30) .rt))))) .no
theorem h_law (p_script : List Int) : RefR (m_law [eR p_script]) (t_law p_script) eB := by
  unfold t_law
  refine ref_def (n := n_law.length) (fl := [true]) (g := g_law) (out := fun _ => [none, none, none, none, none, none, none, none, none, none, none, none]) (c := [some (.im (eR p_script)), none, none, none, none, none, none, none, none, none, none, none]) rfl (.som (.non (.non (.non (.non (.non (.non (.non (.non (.non (.non (.non .nil)))))))))))) ?_ (.inr rfl)
  unfold g_law
  exact sim_unpb (kpT) (ev_A (eva_p (ev_I eR p_script) (eva_p (ev_C eI (5 : Int)) (eva_p (ev_C eI (6 : Int)) (eva_nil (h__law_drawn p_script (5 : Int) (6 : Int))))))) (fun x1 => evt_T rfl (evts_cons (evt_N) (evts_cons (evt_N) (evts_nil)))) (fun x1 => sim_seq (out1 := (fun g4 : Int × (List (Int × Int)) => [some (.im (eR p_script)), some (.im (eI g4.1)), some (.im ((eL (eP eI eI)) g4.2)), none, none, none, none, none, none, none, none, none])) (sim_ifb (kpT) (ev2bp (ev2bp (ev_A (eva_p (ev_I eR p_script) (eva_p (ev_C eI (0 : Int)) (eva_nil (h__law_cell p_script (0 : Int)))))) (ev_C eI (2 : Int)) (fun v2 => rf_modL)) (ev_C eI (1 : Int)) (fun v3 => rf_eq plI)) (sim_last (sim_unpb (kpT) (ev_A (eva_p (ev_I eR p_script) (eva_p (ev_C eI (2 : Int)) (eva_p (ev_C eI (5 : Int)) (eva_p (ev_C eI (6 : Int)) (eva_nil (h__law_led_ears p_script (2 : Int) (5 : Int) (6 : Int)))))))) (fun x5 => evt_T rfl (evts_cons (evt_N) (evts_cons (evt_N) (evts_cons (evt_N) (evts_nil))))) (fun x5 => sim_next (x := (x5.1, x5.2.1)) [true, true, true, false, false, false, false, false, false, false, false, false] rfl))) (sim_next (x := (x1.1, x1.2)) [true, true, true, false, false, false, false, false, false, false, false, false] rfl)) (fun g4 => sim_set (ev_C eI (0 : Int)) (sim_seq (sim_forb (e1 := eI) (kpT) (tb1_law g4.1 g4.2) (fun g11 : Int => [some (.im (eR p_script)), some (.im (eI g4.1)), some (.im ((eL (eP eI eI)) g4.2)), some (.im (eI g11)), none, none, none, none, none, none, none, none]) [true, true, true, true, false, false, false, false, false, false, false, false] (ev_A (eva_b (ev2pp (ev_C eI (1 : Int)) (ev_A (eva_p (ev_I (eL (eP eI eI)) g4.2) (eva_nil (rf_lenL)))) (rf_shl)) (fun v6 => eva_nil (rf_range)))) (fun a35 g11 => ⟨_, evt_N, hb1_law g4.1 g4.2 a35 g11⟩) rfl) (fun g11 => sim_guardb (kpT) (out1 := fun x => nomatch x) (ev_notb (ev_A (eva_b (ev_lfD (ev_A (eva_p (ev_I eI g4.1) (eva_p (ev_Ls (ev_A (eva_p (ev_I (eL (eP eI eI)) g4.2) (eva_nil (rf_listL))))) (eva_nil (rf_webL))))) lfW) (fun v12 => eva_p (ev_I eI g11) (eva_nil (h__law_is v12 g11)))))) (sim_ret (ev_C eB false)) (sim_setb (kpT) (ev_Ls (ev2pb (ev_Ls (ev_I (eL (eP eI eI)) g4.2)) (ev_Ls (ev_lcp (ea := (eP eI eI)) (eb := (eP eI eI)) (tst := (fun _ => .ok true)) (y := (ty1_law g4.1)) (ev1p (ev_I (eL (eP eI eI)) g4.2) (rf_seqL)) (fun a14 => ⟨_, evt_T rfl (evts_cons (evt_N) (evts_cons (evt_N) (evts_nil))), ev_C eB true, ev_w [false, true, false, false, false, false, false, false, false, false, true, true] (hy1_law g4.1 a14)⟩))) (fun v15 => rf_cat))) (fun x16 => sim_guardb (kpT) (out1 := fun x => nomatch x) (ev_notb (ev_A (eva_b (ev_lfD (ev_A (eva_p (ev2pp (ev_C eI (2 : Int)) (ev_I eI g4.1) (rf_mulL)) (eva_p (ev_I (eL (eP eI eI)) x16) (eva_nil (rf_webL))))) lfW) (fun v17 => eva_b (ev2pp (ev_I eI g11) (ev_I eI g11) (rf_mul)) (fun v18 => eva_nil (h__law_is v17 v18)))))) (sim_ret (ev_C eB false)) (sim_setb (kpT) (ev2pp (ev_A (eva_p (ev_I eR p_script) (eva_nil (rf_sumR)))) (ev_I eI g4.1) (rf_mod)) (fun x19 => sim_setb (kpT) (ev_Ls (ev2pp (ev_Ls (ev_A (eva_p (ev_A (eva_p (ev_I eI x19) (eva_p (ev_I eI x19) (eva_nil (rf_P (e1 := eI) (e2 := eI)))))) (eva_nil (rf_lst (l := ([(x19, x19)] : List (Int × Int))) (e := (eP eI eI))))))) (ev2pp (ev_C eI (12 : Int)) (ev_A (eva_p (ev_I (eL (eP eI eI)) g4.2) (eva_nil (rf_lenL)))) (rf_sub)) (rf_rep1 (e := (eP eI eI))))) (fun x20 => sim_guardb (kpT) (out1 := fun x => nomatch x) (ev_notb (ev_A (eva_b (ev_lfD (ev_A (eva_p (ev_I eI g4.1) (eva_b (ev2pp (ev_I (eL (eP eI eI)) x20) (ev_I (eL (eP eI eI)) g4.2) (rf_addL)) (fun v21 => eva_nil (rf_webL))))) lfW) (fun v22 => eva_b (ev2pp (ev_I eI g11) (ev_A (eva_p (ev_I (eL (eP eI eI)) x20) (eva_nil (rf_lenL)))) (rf_shl)) (fun v23 => eva_nil (h__law_is v22 v23)))))) (sim_ret (ev_C eB false)) (sim_setb (kpT) (ev_Ls (ev2pp (ev_Ls (ev_A (eva_p (ev_A (eva_p (ev_C eI (0 : Int)) (eva_p (ev_C eI (0 : Int)) (eva_nil (rf_P (e1 := eI) (e2 := eI)))))) (eva_nil (rf_lst (l := ([((0 : Int), (0 : Int))] : List (Int × Int))) (e := (eP eI eI))))))) (ev2pp (ev_C eI (1 : Int)) (ev2pp (ev_A (eva_p (ev_I eR p_script) (eva_nil (rf_sumR)))) (ev_C eI (28 : Int)) (rf_modL)) (rf_add)) (rf_rep1 (e := (eP eI eI))))) (fun x24 => sim_guardb (kpT) (out1 := fun x => nomatch x) (ev_notb (ev_A (eva_b (ev_lfD (ev_A (eva_p (ev_I eI g4.1) (eva_b (ev_Ls (ev2bp (ev_Ls (ev2pp (ev_I (eL (eP eI eI)) g4.2) (ev_I (eL (eP eI eI)) x20) (rf_addL))) (ev_Ls (ev_A (eva_p (ev_A (eva_p (ev_I eI x19) (eva_p (ev_C eI (0 : Int)) (eva_nil (rf_P (e1 := eI) (e2 := eI)))))) (eva_nil (rf_lst (l := ([(x19, (0 : Int))] : List (Int × Int))) (e := (eP eI eI))))))) (fun v25 => rf_cat))) (fun v26 => eva_nil (rf_webL))))) lfW) (fun v27 => eva_nil (h__law_refused v27))))) (sim_ret (ev_C eB false)) (sim_retb (kpT) (ev_A (eva_b (ev_lfD (ev_A (eva_p (ev_I eI g4.1) (eva_b (ev2bp (ev2pp (ev_I (eL (eP eI eI)) x20) (ev_I (eL (eP eI eI)) g4.2) (rf_addL)) (ev_I (eL (eP eI eI)) x24) (fun v28 => rf_addL)) (fun v29 => eva_nil (rf_webL))))) lfW) (fun v30 => eva_nil (h__law_refused v30))))))))))))))))
end BW.Wk
namespace BW.Wk
open PySem PySem.Spec PyProof.Rows L2
/-! the script's cells; a web drawn -/
def cellI (ns : List Int) (k : Int) : Int := ns.getD k.toNat 0
theorem cell_t {ns : List Int} {k : Int} (h : 0 ≤ k) : t__law_cell ns k = .ok (cellI ns k) := by
  obtain ⟨j, rfl⟩ := Int.eq_ofNat_of_zero_le h
  unfold t__law_cell cellI
  by_cases hj : j < ns.length
  · have e : ixT ns (j : Int) = .ok ns[j] := ixT_nat hj
    simp [hj, e]
  · simp [hj]
def inM (m : Int) (t : Int × Int) : Prop := 0 ≤ t.1 ∧ t.1 < m ∧ 0 ≤ t.2 ∧ t.2 < m
theorem small_m {m : Int} (h0 : 1 ≤ m) (h : m ≤ 20) : smallI m = true := smallI_of (by omega) (by omega)
theorem mod_small (a : Int) {j : Int} (h0 : 0 < j) (h : j < 2 ^ 64) : smallI (a % j) = true := by
  have h1 := Int.emod_nonneg a (b := j) (by omega)
  have h2 := Int.emod_lt_of_pos a h0
  exact smallI_of (by omega) (by omega)
/-- a web as the law draws it -/
structure Wb (m : Int) (ts : List (Int × Int)) : Prop where
  lo : 1 ≤ m
  hi : m ≤ 20
  len : ts.length ≤ 40
  ins : ∀ t ∈ ts, inM m t
theorem Wb.mk' {m : Int} {ts : List (Int × Int)} (h : Wb m ts) : mkW m ts = .ok ⟨m, ts⟩ := mkW_ok h.lo h.hi h.len h.ins
end BW.Wk
namespace BW.Wk
open PySem PySem.Spec PyProof.Rows L2
/-! a web drawn: places and ties by the first number and the script's length -/
theorem endsB_step (ns : List Int) (m w : Int) (k : Nat) (g : Int × List (Int × Int)) (hl : g.2.length < 16777216) (h0 : 1 ≤ m) (hm : m ≤ 20) :
    ∃ (t : Int × Int) (r : Int), inM m t ∧ tb1__law_ends ns m w (k : Int) g = .nx (r, g.2 ++ [t]) := by
  unfold tb1__law_ends
  have p0 : (0 : Int) < m := by omega
  have p1 : m ≤ 10 ^ 60 := by omega
  have p2 : 0 < m * m := Int.mul_pos (by omega) (by omega)
  have p3 : m * m ≤ 10 ^ 60 := by
    have : m * m ≤ 20 * 20 := Int.mul_le_mul hm hm (by omega) (by omega)
    omega
  have s1 := small_m h0 hm
  have s4 : ∀ a : Int, smallI (a % 2147483647) = true := fun a => mod_small a (by decide) (by decide)
  have c : t__law_cell ns (2 + (k : Int)) = _ := cell_t (by omega)
  have c1 : t__law_cell ns 1 = .ok (cellI ns 1) := cell_t (by decide)
  have hin : ∀ x : Int, inM m (x % m, x / m % m) := fun x => ⟨Int.emod_nonneg _ (by omega), Int.emod_lt_of_pos _ p0, Int.emod_nonneg _ (by omega), Int.emod_lt_of_pos _ p0⟩
  have e1 : ∀ x : Int, modT x m = .ok (x % m) := fun x => modT_ok p0
  have e2 : ∀ x : Int, fdivT x m = .ok (x / m) := fun x => fdivT_ok p0 p1
  have e3 : mulT m m = .ok (m * m) := mulT_l s1
  have e4 : ∀ x : Int, fdivT x (m * m) = .ok (x / (m * m)) := fun x => fdivT_ok p2 p3
  have e5 : ∀ t, appT g.2 t = .ok (g.2 ++ [t]) := fun t => appT_ok hl
  have e6 : ∀ a : Int, mulT (a % 2147483647) (a % 2147483647) = .ok (a % 2147483647 * (a % 2147483647)) := fun a => mulT_l (s4 a)
  by_cases h1 : w = 1
  · have h2 : ¬ w = 2 := by omega
    exact ⟨_, _, hin g.1, by simp only [c, ob_ok, decide_eq_true h1, decide_eq_false h2, cond_true, cond_false, e3, r_bind_ok, e4, tsq_nx, e1, e2, e5]; exact rfl⟩
  · by_cases h2 : w = 2
    · exact ⟨_, _, hin _, by simp only [c, c1, ob_ok, decide_eq_false h1, decide_eq_true h2, cond_true, cond_false, r_bind_ok, e6, tsq_nx, e1, e2, e5]; exact rfl⟩
    · exact ⟨_, _, hin (cellI ns (2 + (k : Int))), by simp only [c, ob_ok, decide_eq_false h1, decide_eq_false h2, cond_false, r_bind_ok, tsq_nx, e1, e2, e5]; exact rfl⟩
theorem endsB_t {ns : List Int} {m c w : Int} (h0 : 1 ≤ m) (hm : m ≤ 20) (hc0 : 0 ≤ c) (hc : c ≤ 1000) : ∃ ts : List (Int × Int), t__law_ends ns m c w = .ok ts ∧ (ts.length : Int) = c ∧ ∀ t ∈ ts, inM m t := by
  obtain ⟨n, rfl⟩ := Int.eq_ofNat_of_zero_le hc0
  unfold t__law_ends
  have c1 : t__law_cell ns 1 = .ok (cellI ns 1) := cell_t (by decide)
  obtain ⟨⟨r', ts⟩, h1, h2, h3⟩ := forT_rgI (Λ := Empty) (b := tb1__law_ends ns m w) (n := n) (g0 := (((cellI ns 1).natAbs : Int), [])) (fun i g => g.2.length = i ∧ ∀ t ∈ g.2, inM m t) (by
    rintro i ⟨r, l⟩ hi ⟨h2, h3⟩
    have h2 : l.length = i := h2
    obtain ⟨t, r', ht, h⟩ := endsB_step ns m w i (r, l) (by show l.length < _; omega) h0 hm
    refine ⟨_, .inl h, by simp; exact h2, fun t' ht' => ?_⟩
    rcases List.mem_append.mp ht' with h | h
    · exact h3 t' h
    · rw [List.mem_singleton.mp h]; exact ht) ⟨rfl, fun t ht => by cases ht⟩
  have e : rangeT (n : Int) = .ok (rangeI 0 n) := rangeT_nat (by omega)
  exact ⟨ts, by simp only [c1, r_bind_ok, ob_ok, e, h1, tsq_nx, out_rt], by have : ts.length = n := h2; omega, h3⟩
theorem drawnB_t (ns : List Int) {most bound : Int} (hm0 : 1 ≤ most) (hm : most ≤ 20) (hb0 : 0 ≤ bound) (hb : bound ≤ 40) : ∃ (m : Int) (ts : List (Int × Int)), t__law_drawn ns most bound = .ok (m, ts) ∧ Wb m ts ∧ m ≤ most ∧ (ts.length : Int) ≤ bound := by
  unfold t__law_drawn
  have c0 : t__law_cell ns 0 = .ok (cellI ns 0) := cell_t (by decide)
  have a0 := Int.emod_nonneg (cellI ns 0) (b := most) (by omega)
  have a1 := Int.emod_lt_of_pos (cellI ns 0) (b := most) (by omega)
  have e1 : modT (cellI ns 0) most = .ok (cellI ns 0 % most) := modT_ok (by omega)
  have e2 : fdivT (cellI ns 0) (3 * most) = .ok (cellI ns 0 / (3 * most)) := fdivT_ok (by omega) (by omega)
  have e3 : ∀ x : Int, modT x (bound + 1) = .ok (x % (bound + 1)) := fun x => modT_ok (by omega)
  have e4 : fdivT (cellI ns 0) most = .ok (cellI ns 0 / most) := fdivT_ok (by omega) (by omega)
  have b0 := Int.emod_nonneg ((ns.length : Int) + cellI ns 0 / (3 * most)) (b := bound + 1) (by omega)
  have b1 := Int.emod_lt_of_pos ((ns.length : Int) + cellI ns 0 / (3 * most)) (b := bound + 1) (by omega)
  obtain ⟨ts, h1, h2, h3⟩ := endsB_t (ns := ns) (m := 1 + cellI ns 0 % most) (c := ((ns.length : Int) + cellI ns 0 / (3 * most)) % (bound + 1)) (w := cellI ns 0 / most % 3) (by omega) (by omega) b0 (by omega)
  exact ⟨_, ts, by simp only [c0, ob_ok, e1, r_bind_ok, e2, e3, e4, h1, out_rt], ⟨by omega, by omega, by omega, h3⟩, by omega, by omega⟩
end BW.Wk
namespace BW.Wk
open PySem PySem.Spec PyProof.Rows L2
/-! names of places that hang together -/
def tieI (ts : List (Int × Int)) (k : Int) : Int × Int := ts.getD k.toNat (0, 0)
def nmI (nm : List Int) (p : Int) : Int := nm.getD p.toNat 0
def mrg (a b : Int) (nm : List Int) : List Int := nm.map fun x => if x = b then a else x
def stN (ts : List (Int × Int)) (nm : List Int) (k : Int) : List Int := mrg (nmI nm (tieI ts k).1) (nmI nm (tieI ts k).2) nm
def inP (n : Nat) (p : Int) : Prop := 0 ≤ p ∧ p < (n : Int)
/-! the places come to -/
abbrev Cm := List (Int × Option (Int × Int))
theorem lk_app {α : Type} : ∀ {t : List (Int × α)} {x y : Int} {d : α}, lk (t ++ [(y, d)]) x = if x ∈ kD t then lk t x else if y = x then some d else none
  | [], x, y, d => by simp [lk, kD]
  | (k, c) :: t, x, y, d => by
    show (if k = x then some c else lk (t ++ [(y, d)]) x) = if x ∈ k :: kD t then (if k = x then some c else lk t x) else _
    rw [lk_app]
    by_cases h : k = x
    · simp [h]
    · have h' : ¬ x = k := fun z => h z.symm
      simp [h, h']
/-- what is come to from a place by some ties: each from one ahead -/
inductive Gd (ts : List (Int × Int)) (n : Nat) (S : List Int) (one : Int) : Cm → Prop
  | one : inP n one → Gd ts n S one [(one, none)]
  | snoc {c p h k} : Gd ts n S one c → h ∈ kD c → p ∉ kD c → k ∈ S → inP n p → ((tieI ts k = (h, p)) ∨ (tieI ts k = (p, h))) → Gd ts n S one (c ++ [(p, some (h, k))])
theorem kD_snoc {α : Type} (t : List (Int × α)) (y : Int) (d : α) : kD (t ++ [(y, d)]) = kD t ++ [y] := by unfold kD; rw [List.map_append]; rfl
section
variable {ts : List (Int × Int)} {n : Nat} {S : List Int} {one : Int}
theorem Gd.inn {c : Cm} (g : Gd ts n S one c) : ∀ p ∈ kD c, inP n p := by
  induction g with
  | one h => intro p hp; simp [kD] at hp; rw [hp]; exact h
  | snoc _ _ _ _ h _ ih =>
    intro q hq
    rw [kD_snoc] at hq
    rcases List.mem_append.mp hq with hq | hq
    · exact ih q hq
    · rw [List.mem_singleton.mp hq]; exact h
theorem Gd.nd {c : Cm} (g : Gd ts n S one c) : (kD c).Nodup := by
  induction g with
  | one h => simp [kD]
  | snoc _ _ h _ _ _ ih =>
    rw [kD_snoc]
    refine List.nodup_append.mpr ⟨ih, by simp, fun a ha b hb => ?_⟩
    rw [List.mem_singleton.mp hb]
    exact fun z => h (z ▸ ha)
theorem nodup_leN : ∀ (n : Nat) (l : List Int), l.Nodup → (∀ p ∈ l, inP n p) → l.length ≤ n
  | 0, [], _, _ => Nat.le_refl _
  | 0, x :: _, _, h => by
    obtain ⟨a, b⟩ := h x List.mem_cons_self
    omega
  | n + 1, l, hd, h => by
    by_cases hm : (n : Int) ∈ l
    · have h1 := nodup_leN n (l.erase (n : Int)) (hd.erase _) fun p hp => by
        obtain ⟨a, b⟩ := (List.Nodup.mem_erase_iff hd).mp hp
        obtain ⟨c, d⟩ := h p b
        exact ⟨c, by omega⟩
      rw [List.length_erase_of_mem hm] at h1
      omega
    · have h1 := nodup_leN n l hd fun p hp => by
        obtain ⟨c, d⟩ := h p hp
        have : p ≠ (n : Int) := fun z => hm (z ▸ hp)
        exact ⟨c, by omega⟩
      omega
theorem nodup_le {l : List Int} (h : l.Nodup) (hi : ∀ p ∈ l, inP n p) : l.length ≤ n := nodup_leN n l h hi
theorem Gd.len {c : Cm} (g : Gd ts n S one c) : c.length ≤ n := by
  have := nodup_le g.nd g.inn
  unfold kD at this
  rwa [List.length_map] at this
/-- where one came from lies ahead -/
theorem Gd.back {c : Cm} (g : Gd ts n S one c) : ∀ p ∈ kD c, (lk c p = some none) ∨ ∃ h k, lk c p = some (some (h, k)) ∧ h ∈ kD c ∧ k ∈ S ∧ (kD c).idxOf h < (kD c).idxOf p := by
  induction g with
  | one h => intro p hp; simp [kD] at hp; exact .inl (by rw [hp]; simp [lk])
  | @snoc c p h k g h1 h2 h3 h4 h5 ih =>
    intro q hq
    rw [kD_snoc] at hq ⊢
    rw [lk_app]
    by_cases hqc : q ∈ kD c
    · rw [if_pos hqc]
      rcases ih q hqc with z | ⟨a, b, z1, z2, z3, z4⟩
      · exact .inl z
      · refine .inr ⟨a, b, z1, List.mem_append_left _ z2, z3, ?_⟩
        rw [List.idxOf_append, List.idxOf_append, if_pos z2, if_pos hqc]
        exact z4
    · have hqp : q = p := by
        rcases List.mem_append.mp hq with z | z
        · exact absurd z hqc
        · exact List.mem_singleton.mp z
      subst hqp
      rw [if_neg hqc, if_pos rfl]
      refine .inr ⟨h, k, rfl, List.mem_append_left _ h1, h3, ?_⟩
      rw [List.idxOf_append, List.idxOf_append, if_pos h1, if_neg hqc]
      have := List.idxOf_lt_length_of_mem h1
      omega
end
end BW.Wk
namespace BW.Wk
open PySem PySem.Spec PyProof.Rows L2
/-! what one comes to along directions -/
inductive Rc (ways : List (Int × Int)) (p : Int) : Int → Prop
  | rf : Rc ways p p
  | st {q r} : Rc ways p q → (q, r) ∈ ways → Rc ways p r
theorem Rc.trans {ways : List (Int × Int)} {p q r : Int} (h : Rc ways p q) (k : Rc ways q r) : Rc ways p r := by
  induction k with
  | rf => exact h
  | st _ h2 ih => exact ih.st h2
theorem Rc.mono {ways ways' : List (Int × Int)} (hs : ∀ t ∈ ways, t ∈ ways') {p q : Int} (h : Rc ways p q) : Rc ways' p q := by
  induction h with
  | rf => exact .rf
  | st _ h2 ih => exact ih.st (hs _ h2)
/-- what is closed holds all that is come to -/
theorem Rc.closed {ways : List (Int × Int)} {p q : Int} {C : Int → Prop} (hp : C p) (hc : ∀ t ∈ ways, C t.1 → C t.2) (h : Rc ways p q) : C q := by
  induction h with
  | rf => exact hp
  | st _ h2 ih => exact hc _ h2 ih
def okW (n : Nat) (ways : List (Int × Int)) : Prop := ∀ t ∈ ways, inP n t.1 ∧ inP n t.2
/-- the ties along directions -/
def dw (ts : List (Int × Int)) (ds : List Bool) : List (Int × Int) := (ts.zip ds).map fun a => cond a.2 a.1 (a.1.2, a.1.1)
theorem dw_ok {n : Nat} {ts : List (Int × Int)} {ds : List Bool} (h : ∀ t ∈ ts, inM (n : Int) t) : okW n (dw ts ds) := fun t ht => by
  obtain ⟨⟨a, b⟩, h1, h2⟩ := List.mem_map.mp ht
  obtain ⟨k1, k2, k3, k4⟩ := h a (List.of_mem_zip h1).1
  cases b <;> subst h2 <;> exact ⟨⟨by assumption, by assumption⟩, ⟨by assumption, by assumption⟩⟩
theorem dw_len {ts : List (Int × Int)} {ds : List Bool} (h : ds.length = ts.length) : (dw ts ds).length = ts.length := by
  unfold dw
  rw [List.length_map, List.length_zip, h, Nat.min_self]
def whirlQ (ways : List (Int × Int)) : Prop := ∀ t ∈ ways, Rc ways t.2 t.1
theorem popT_app {α : Type} (l : List α) (a : α) : popT (l ++ [a]) = .ok (l, a) := by
  unfold popT
  have e : (l ++ [a])[(l ++ [a]).length - 1]? = some a := by simp
  rw [e]
  simp
section
variable {n : Nat} {ways : List (Int × Int)} {p : Int}
theorem come_row {f : List Int} {k : Int} {here : Int} (hk : 0 ≤ k) (hf : f[k.toNat]? = some here) (hok : okW n ways) (hn : n ≤ 400) (nd : f.Nodup) (hi : ∀ x ∈ f, inP n x) (hr : ∀ x ∈ f, Rc ways p x) : ∃ f', (forT (tb1_come_to k) ways f : TR (List Int × Int) (List Int) (List Int)) = .nx f' ∧ (∃ e, f' = f ++ e) ∧ f'.Nodup ∧ (∀ x ∈ f', inP n x) ∧ (∀ x ∈ f', Rc ways p x) ∧ ∀ t ∈ ways, t.1 = here → t.2 ∈ f' := by
  have hkl : k.toNat < f.length := (List.getElem?_eq_some_iff.mp hf).1
  have hhere : here ∈ f := List.mem_of_getElem? hf
  obtain ⟨f', h0, ⟨h1, h2, h3, h4, h5⟩⟩ := forT_inv (Λ := List Int × Int) (b := tb1_come_to k) (l := ways) (g0 := f) (fun i g => (∃ e, g = f ++ e) ∧ g.Nodup ∧ (∀ x ∈ g, inP n x) ∧ (∀ x ∈ g, Rc ways p x) ∧ ∀ (j : Nat) t, j < i → ways[j]? = some t → t.1 = here → t.2 ∈ g) (by
    rintro i a g ha ⟨⟨e, rfl⟩, i2, i3, i4, i5⟩
    have e1 : ixT (f ++ e) k = .ok here := by
      have := ixT_some (l := f ++ e) (i := k.toNat) (a := here) (by rw [List.getElem?_append_left hkl]; exact hf)
      rwa [Int.toNat_of_nonneg hk] at this
    have hgl := nodup_le (n := n) i2 i3
    have e2 : appT (f ++ e) a.2 = .ok ((f ++ e) ++ [a.2]) := appT_ok (by omega)
    have ham := List.mem_of_getElem? ha
    unfold tb1_come_to
    by_cases c1 : a.1 = here
    · by_cases c2 : a.2 ∈ f ++ e
      · refine ⟨f ++ e, .inl ?_, ⟨e, rfl⟩, i2, i3, i4, fun j t hj ht h => ?_⟩
        · simp only [e1, r_bind_ok, decide_eq_true c1, cond_true, decide_eq_true c2, Bool.not_true, ob_ok, cond_false, tsq_nx]
        · by_cases z : j = i
          · rw [z, ha] at ht; cases ht; exact c2
          · exact i5 j t (by omega) ht h
      · refine ⟨(f ++ e) ++ [a.2], .inl ?_, ⟨e ++ [a.2], by rw [List.append_assoc]⟩, ?_, fun x hx => ?_, fun x hx => ?_, fun j t hj ht h => ?_⟩
        · simp only [e1, r_bind_ok, decide_eq_true c1, cond_true, decide_eq_false c2, Bool.not_false, ob_ok, e2, tsq_nx]
        · refine List.nodup_append.mpr ⟨i2, by simp, fun x hx y hy => ?_⟩
          rw [List.mem_singleton.mp hy]
          exact fun z => c2 (z ▸ hx)
        · rcases List.mem_append.mp hx with h | h
          · exact i3 x h
          · rw [List.mem_singleton.mp h]; exact (hok a ham).2
        · rcases List.mem_append.mp hx with h | h
          · exact i4 x h
          · rw [List.mem_singleton.mp h]
            exact (hr here hhere).st (by rw [← c1]; exact ham)
        · by_cases z : j = i
          · rw [z, ha] at ht; cases ht; simp
          · exact List.mem_append_left _ (i5 j t (by omega) ht h)
    · refine ⟨f ++ e, .inl ?_, ⟨e, rfl⟩, i2, i3, i4, fun j t hj ht h => ?_⟩
      · simp only [e1, r_bind_ok, decide_eq_false c1, cond_false, ob_ok, tsq_nx]
      · by_cases z : j = i
        · rw [z, ha] at ht; cases ht; exact absurd h c1
        · exact i5 j t (by omega) ht h) ⟨⟨[], by simp⟩, nd, hi, hr, fun j t hj => by omega⟩
  refine ⟨f', h0, h1, h2, h3, h4, fun t ht h => ?_⟩
  obtain ⟨j, hj⟩ := List.getElem?_of_mem ht
  exact h5 j t (List.getElem?_eq_some_iff.mp hj).1 hj h
theorem come_t (hok : okW n ways) (hn : n ≤ 400) (hp : inP n p) : ∃ l, t_come_to ways p = .ok l ∧ ∀ q, q ∈ l ↔ Rc ways p q := by
  obtain ⟨⟨f, k⟩, h0, ⟨h1, h2, h3, h4, h5, h6, h7⟩, h8⟩ := whT_inv (Λ := Empty) (t := tc1_come_to ways) (b := tw1_come_to ways) (n := 1000) (g0 := ([p], (0 : Int))) (fun g => 0 ≤ g.2 ∧ g.2 ≤ (g.1.length : Int) ∧ p ∈ g.1 ∧ g.1.Nodup ∧ (∀ x ∈ g.1, inP n x) ∧ (∀ x ∈ g.1, Rc ways p x) ∧ ∀ (j : Nat) x, (j : Int) < g.2 → g.1[j]? = some x → ∀ t ∈ ways, t.1 = x → t.2 ∈ g.1) (fun g => ((n : Int) + 1 - g.2).toNat) (by
    rintro ⟨f, k⟩ ⟨i1, i2, i3, i4, i5, i6, i7⟩
    have i1 : 0 ≤ k := i1
    have i2 : k ≤ (f.length : Int) := i2
    have i3 : p ∈ f := i3
    have i4 : f.Nodup := i4
    have i5 : ∀ x ∈ f, inP n x := i5
    have i6 : ∀ x ∈ f, Rc ways p x := i6
    have i7 : ∀ (j : Nat) x, (j : Int) < k → f[j]? = some x → ∀ t ∈ ways, t.1 = x → t.2 ∈ f := i7
    by_cases hk : k < (f.length : Int)
    · have hkl : k.toNat < f.length := by omega
      obtain ⟨f', q0, ⟨e, rfl⟩, q2, q3, q4, q5⟩ := come_row (p := p) (here := f[k.toNat]) i1 (List.getElem?_eq_getElem hkl) hok hn i4 i5 i6
      have hfl := nodup_le (n := n) i4 i5
      refine .inr ⟨by unfold tc1_come_to; simp [hk], (f ++ e, k + 1), .inl ?_, ⟨by show 0 ≤ k + 1; omega, ?_, List.mem_append_left _ i3, q2, q3, q4, fun j x hj hx t ht h => ?_⟩, ?_⟩
      · unfold tw1_come_to
        simp only [q0, tsq_nx]
      · show k + 1 ≤ ((f ++ e).length : Int)
        rw [List.length_append]
        omega
      · have hj : (j : Int) < k + 1 := hj
        have hx : (f ++ e)[j]? = some x := hx
        by_cases z : (j : Int) = k
        · have : j = k.toNat := by omega
          rw [this, List.getElem?_append_left hkl, List.getElem?_eq_getElem hkl] at hx
          exact q5 t ht (by rw [h]; exact (Option.some.inj hx).symm)
        · rw [List.getElem?_append_left (by omega)] at hx
          exact List.mem_append_left _ (i7 j x (by omega) hx t ht h)
      · show ((n : Int) + 1 - (k + 1)).toNat < ((n : Int) + 1 - k).toNat
        omega
    · exact .inl (by unfold tc1_come_to; simp; omega)) ⟨by show (0 : Int) ≤ 0; omega, by show (0 : Int) ≤ 1; omega, List.mem_singleton_self p, List.nodup_cons.mpr ⟨by simp, List.nodup_nil⟩, fun x hx => by rw [List.mem_singleton.mp hx]; exact hp, fun x hx => by rw [List.mem_singleton.mp hx]; exact .rf, fun j x hj => by have hj : (j : Int) < 0 := hj; omega⟩ (by show ((n : Int) + 1 - 0).toNat < 1000; omega)
  refine ⟨f, ?_, fun q => ⟨h6 q, fun r => Rc.closed (C := (· ∈ f)) h3 (fun t ht hq => ?_) r⟩⟩
  · unfold t_come_to
    simp only [ob_ok, h0, tsq_nx, out_rt]
  · unfold tc1_come_to at h8
    have hk : ¬ k < (f.length : Int) := by simpa using h8
    obtain ⟨j, hj⟩ := List.getElem?_of_mem hq
    have := (List.getElem?_eq_some_iff.mp hj).1
    exact h7 j t.1 (by show (j : Int) < k; omega) hj t ht rfl
end
end BW.Wk
namespace BW.Wk
open PySem PySem.Spec PyProof.Rows L2
/-! the law's own walk along directions -/
theorem dw_get {ts : List (Int × Int)} {ds : List Bool} {i : Nat} (h1 : i < ts.length) (h2 : i < ds.length) : (dw ts ds)[i]? = some (cond ds[i] ts[i] (ts[i].2, ts[i].1)) := by
  unfold dw
  rw [List.getElem?_map, (List.getElem?_zip_eq_some (z := (ts[i], ds[i]))).mpr ⟨List.getElem?_eq_getElem h1, List.getElem?_eq_getElem h2⟩]
  rfl
section
variable {n : Nat} {ts : List (Int × Int)} {ds : List Bool} {p : Int}
def Clo (ways : List (Int × Int)) (f : List Int) (x : Int) : Prop := ∀ t ∈ ways, t.1 = x → t.2 ∈ f
theorem Clo.more {ways : List (Int × Int)} {f : List Int} {x y : Int} (h : Clo ways f x) : Clo ways (f ++ [y]) x := fun t ht e => List.mem_append_left _ (h t ht e)
theorem lcome_row (hl : ds.length = ts.length) (hz : ts.length ≤ 1000) (hi : ∀ t ∈ ts, inM (n : Int) t) (hn : n ≤ 100) {f w : List Int} {here : Int} (hh : here ∈ f) (nd : f.Nodup) (hin : ∀ x ∈ f, inP n x) (hr : ∀ x ∈ f, Rc (dw ts ds) p x) (hw : ∀ x ∈ w, x ∈ f) (hc : ∀ x ∈ f, x ∈ w ∨ x = here ∨ Clo (dw ts ds) f x) (hm : w.length + 2 * (n - f.length) ≤ 500) :
    ∃ f' w', (forT (tb1__law_come ts ds here) (rangeI 0 ts.length) (f, w) : TR (List Int × List Int) (List Int × List Int) (List Int)) = .nx (f', w') ∧ (∀ x ∈ f, x ∈ f') ∧ f'.Nodup ∧ (∀ x ∈ f', inP n x) ∧ (∀ x ∈ f', Rc (dw ts ds) p x) ∧ (∀ x ∈ w', x ∈ f') ∧ (∀ x ∈ f', x ∈ w' ∨ Clo (dw ts ds) f' x) ∧ w'.length + 2 * (n - f'.length) ≤ w.length + 2 * (n - f.length) := by
  have hok := dw_ok (ds := ds) hi
  obtain ⟨⟨f', w'⟩, h0, ⟨j1, j2, j3, j4, j5, j6, j7, j8⟩⟩ := forT_rgI (Λ := List Int × List Int) (b := tb1__law_come ts ds here) (n := ts.length) (g0 := (f, w)) (fun i g => (∀ x ∈ f, x ∈ g.1) ∧ g.1.Nodup ∧ (∀ x ∈ g.1, inP n x) ∧ (∀ x ∈ g.1, Rc (dw ts ds) p x) ∧ (∀ x ∈ g.2, x ∈ g.1) ∧ (∀ x ∈ g.1, x ∈ g.2 ∨ x = here ∨ Clo (dw ts ds) g.1 x) ∧ (∀ (j : Nat) t, j < i → (dw ts ds)[j]? = some t → t.1 = here → t.2 ∈ g.1) ∧ g.2.length + 2 * (n - g.1.length) ≤ w.length + 2 * (n - f.length)) (by
    rintro i ⟨g, v⟩ hi' ⟨i1, i2, i3, i4, i5, i6, i7, i8⟩
    have i1 : ∀ x ∈ f, x ∈ g := i1
    have i2 : g.Nodup := i2
    have i3 : ∀ x ∈ g, inP n x := i3
    have i4 : ∀ x ∈ g, Rc (dw ts ds) p x := i4
    have i5 : ∀ x ∈ v, x ∈ g := i5
    have i6 : ∀ x ∈ g, x ∈ v ∨ x = here ∨ Clo (dw ts ds) g x := i6
    have i7 : ∀ (j : Nat) t, j < i → (dw ts ds)[j]? = some t → t.1 = here → t.2 ∈ g := i7
    have i8 : v.length + 2 * (n - g.length) ≤ w.length + 2 * (n - f.length) := i8
    have hd : i < ds.length := by omega
    have hget := dw_get (ts := ts) (ds := ds) hi' hd
    have e1 : ixT ts (i : Int) = .ok ts[i] := ixT_nat hi'
    have e2 : ixT ds (i : Int) = .ok ds[i] := ixT_nat hd
    have hgl := nodup_le (n := n) i2 i3
    generalize hT : (cond ds[i] ts[i] (ts[i].2, ts[i].1)) = T at hget
    have hTm : T ∈ dw ts ds := List.mem_of_getElem? hget
    have hstep : ∀ g5 : Int × Int, g5 = T → tb1__law_come ts ds here (i : Int) (g, v) = TR.sq (cond ((decide (g5.1 = here)) && (!(decide (g5.2 ∈ g)))) (TR.ob (appT g g5.2) fun x7 => TR.ob (appT v g5.2) fun x8 => .nx (x7, x8)) (.nx (g, v))) fun g6 => .nx (g6.1, g6.2) := by
      rintro g5 rfl
      unfold tb1__law_come
      rw [← hT]
      cases hb : ds[i] <;> simp only [e1, ob_ok, e2, hb, map_ok_, Bool.not_true, Bool.not_false, cond_true, cond_false, tsq_nx]
    rw [hstep T rfl]
    by_cases c1 : T.1 = here
    · by_cases c2 : T.2 ∈ g
      · refine ⟨(g, v), .inl ?_, i1, i2, i3, i4, i5, i6, fun j t hj ht h => ?_, i8⟩
        · simp only [decide_eq_true c1, decide_eq_true c2, Bool.not_true, Bool.and_false, cond_false, tsq_nx]
        · by_cases z : j = i
          · rw [z, hget] at ht; cases ht; exact c2
          · exact i7 j t (by omega) ht h
      · have nd' : (g ++ [T.2]).Nodup := by
          refine List.nodup_append.mpr ⟨i2, by simp, fun x hx y hy => ?_⟩
          rw [List.mem_singleton.mp hy]
          exact fun z => c2 (z ▸ hx)
        have in' : ∀ x ∈ g ++ [T.2], inP n x := fun x hx => by
          rcases List.mem_append.mp hx with h | h
          · exact i3 x h
          · rw [List.mem_singleton.mp h]; exact (hok T hTm).2
        have hgl' := nodup_le (n := n) nd' in'
        rw [List.length_append, List.length_singleton] at hgl'
        have e3 : appT g T.2 = .ok (g ++ [T.2]) := appT_ok (by omega)
        have e4 : appT v T.2 = .ok (v ++ [T.2]) := appT_ok (by omega)
        refine ⟨(g ++ [T.2], v ++ [T.2]), .inl ?_, fun x hx => List.mem_append_left _ (i1 x hx), nd', in', fun x hx => ?_, fun x hx => ?_, fun x hx => ?_, fun j t hj ht h => ?_, ?_⟩
        · simp only [decide_eq_true c1, decide_eq_false c2, Bool.not_false, Bool.and_true, cond_true, e3, ob_ok, e4, tsq_nx]
        · rcases List.mem_append.mp hx with h | h
          · exact i4 x h
          · rw [List.mem_singleton.mp h]
            exact (hr here hh).st (by rw [← c1]; exact hTm)
        · show x ∈ g ++ [T.2]
          rcases List.mem_append.mp hx with h | h
          · exact List.mem_append_left _ (i5 x h)
          · exact List.mem_append_right _ h
        · rcases List.mem_append.mp hx with h | h
          · rcases i6 x h with h | h | h
            · exact .inl (List.mem_append_left _ h)
            · exact .inr (.inl h)
            · exact .inr (.inr h.more)
          · exact .inl (List.mem_append_right _ h)
        · by_cases z : j = i
          · rw [z, hget] at ht; cases ht; simp
          · exact List.mem_append_left _ (i7 j t (by omega) ht h)
        · show (v ++ [T.2]).length + 2 * (n - (g ++ [T.2]).length) ≤ _
          simp only [List.length_append, List.length_singleton]
          omega
    · refine ⟨(g, v), .inl ?_, i1, i2, i3, i4, i5, i6, fun j t hj ht h => ?_, i8⟩
      · simp only [decide_eq_false c1, Bool.false_and, cond_false, tsq_nx]
      · by_cases z : j = i
        · rw [z, hget] at ht; cases ht; exact absurd h c1
        · exact i7 j t (by omega) ht h) ⟨fun x hx => hx, nd, hin, hr, hw, hc, fun j t hj => by omega, Nat.le_refl _⟩
  refine ⟨f', w', h0, j1, j2, j3, j4, j5, fun x hx => ?_, j8⟩
  rcases j6 x hx with h | h | h
  · exact .inl h
  · refine .inr fun t ht e => ?_
    obtain ⟨j, hj⟩ := List.getElem?_of_mem ht
    have := (List.getElem?_eq_some_iff.mp hj).1
    rw [dw_len hl] at this
    exact j7 j t this hj (by rw [e, h])
  · exact .inr h
theorem lcome_t (hl : ds.length = ts.length) (hz : ts.length ≤ 1000) (hi : ∀ t ∈ ts, inM (n : Int) t) (hn : n ≤ 100) (hp : inP n p) : ∃ l, t__law_come ts ds p = .ok l ∧ ∀ q, q ∈ l ↔ Rc (dw ts ds) p q := by
  have e0 : rangeT (ts.length : Int) = .ok (rangeI 0 ts.length) := rangeT_nat (by omega)
  obtain ⟨⟨f, w⟩, h0, ⟨h1, h2, h3, h4, h5, h6, h7⟩, h8⟩ := whT_inv (Λ := Empty) (t := tc1__law_come ts ds) (b := tw1__law_come ts ds) (n := 1000) (g0 := ([p], [p])) (fun g => p ∈ g.1 ∧ g.1.Nodup ∧ (∀ x ∈ g.1, inP n x) ∧ (∀ x ∈ g.1, Rc (dw ts ds) p x) ∧ (∀ x ∈ g.2, x ∈ g.1) ∧ (∀ x ∈ g.1, x ∈ g.2 ∨ Clo (dw ts ds) g.1 x) ∧ g.2.length + 2 * (n - g.1.length) ≤ 400) (fun g => g.2.length + 2 * (n - g.1.length)) (by
    rintro ⟨f, w⟩ ⟨i1, i2, i3, i4, i5, i6, i7⟩
    have i1 : p ∈ f := i1
    have i2 : f.Nodup := i2
    have i3 : ∀ x ∈ f, inP n x := i3
    have i4 : ∀ x ∈ f, Rc (dw ts ds) p x := i4
    have i5 : ∀ x ∈ w, x ∈ f := i5
    have i6 : ∀ x ∈ f, x ∈ w ∨ Clo (dw ts ds) f x := i6
    have i7 : w.length + 2 * (n - f.length) ≤ 400 := i7
    rcases List.eq_nil_or_concat w with rfl | ⟨w', a, rfl⟩
    · exact .inl (by unfold tc1__law_come; simp)
    · rw [List.concat_eq_append] at i5 i6 i7 ⊢
      rw [List.length_append, List.length_singleton] at i7
      obtain ⟨f', v', q0, q1, q2, q3, q4, q5, q6, q7⟩ := lcome_row (p := p) hl hz hi hn (f := f) (w := w') (here := a) (i5 a (by simp)) i2 i3 i4 (fun x hx => i5 x (List.mem_append_left _ hx)) (fun x hx => by
        rcases i6 x hx with h | h
        · rcases List.mem_append.mp h with h | h
          · exact .inl h
          · exact .inr (.inl (List.mem_singleton.mp h))
        · exact .inr (.inr h)) (by omega)
      refine .inr ⟨by unfold tc1__law_come; simp, (f', v'), .inl ?_, ⟨q1 p i1, q2, q3, q4, q5, q6, by show v'.length + 2 * (n - f'.length) ≤ 400; omega⟩, ?_⟩
      · unfold tw1__law_come
        simp only [popT_app, ob_ok, e0, q0, tsq_nx]
      · show v'.length + 2 * (n - f'.length) < (w' ++ [a]).length + 2 * (n - f.length)
        rw [List.length_append, List.length_singleton]
        omega) ⟨List.mem_singleton_self p, List.nodup_cons.mpr ⟨by simp, List.nodup_nil⟩, fun x hx => by rw [List.mem_singleton.mp hx]; exact hp, fun x hx => by rw [List.mem_singleton.mp hx]; exact .rf, fun x hx => hx, fun x hx => .inl hx, by show 1 + 2 * (n - 1) ≤ 400; omega⟩ (by show 1 + 2 * (n - 1) < 1000; omega)
  have hw : w = [] := by unfold tc1__law_come at h8; simpa using h8
  subst hw
  refine ⟨f, ?_, fun q => ⟨h4 q, fun r => Rc.closed (C := (· ∈ f)) h1 (fun t ht hq => ?_) r⟩⟩
  · unfold t__law_come
    simp only [ob_ok, h0, tsq_nx, out_rt]
  · rcases h6 t.1 hq with h | h
    · cases h
    · exact h t ht rfl
theorem lwhirl_t (hl : ds.length = ts.length) (hz : ts.length ≤ 1000) (hi : ∀ t ∈ ts, inM (n : Int) t) (hn : n ≤ 100) : ∃ b, t__law_whirl (n : Int) ts ds = .ok b ∧ (b = true ↔ whirlQ (dw ts ds)) := by
  have hok := dw_ok (ds := ds) hi
  obtain ⟨L, hL⟩ : ∃ L : Int → List Int, ∀ p, inP n p → t__law_come ts ds p = .ok (L p) ∧ ∀ q, q ∈ L p ↔ Rc (dw ts ds) p q := by
    classical
    exact ⟨fun p => if h : inP n p then (lcome_t hl hz hi hn h).choose else [], fun p h => by
      simp only [dif_pos h]
      exact (lcome_t hl hz hi hn h).choose_spec⟩
  have e2 : rangeT (n : Int) = .ok (rangeI 0 n) := rangeT_nat (by omega)
  have e3 : fLcT (fun _ => .ok true) (ty1__law_whirl ts ds) (rangeI 0 n) = .ok ((rangeI 0 n).map L) := fLcT_map _ (by rw [rangeI_len]; omega) fun a ha => by
    have := mem_rangeI.mp ha
    unfold ty1__law_whirl
    exact (hL a ⟨this.1, by omega⟩).1
  have e4 : rangeT (ts.length : Int) = .ok (rangeI 0 ts.length) := rangeT_nat (by omega)
  have hix : ∀ q, inP n q → ixT ((rangeI 0 n).map L) q = .ok (L q) := fun q hq => by
    obtain ⟨k, rfl⟩ := Int.eq_ofNat_of_zero_le hq.1
    refine ixT_some ?_
    rw [List.getElem?_map, rangeI_get (by have := hq.2; omega)]
    show some (L (0 + (k : Int))) = _
    rw [Int.zero_add]
  have hsk := forT_seek (Λ := Empty) (b := tb1__law_whirl ts ds ((rangeI 0 n).map L)) (l := rangeI 0 ts.length) (g0 := ()) (d := false) (fun k => !decide (((dw ts ds).getD k.toNat (0, 0)).1 ∈ L ((dw ts ds).getD k.toNat (0, 0)).2)) (fun a ha => by
    obtain ⟨i, hi0⟩ := Int.eq_ofNat_of_zero_le (mem_rangeI.mp ha).1
    subst hi0
    have hi' : i < ts.length := by have := (mem_rangeI.mp ha).2; omega
    have hd : i < ds.length := by omega
    have hget := dw_get (ts := ts) (ds := ds) hi' hd
    have e1 : ixT ts (i : Int) = .ok ts[i] := ixT_nat hi'
    have e2 : ixT ds (i : Int) = .ok ds[i] := ixT_nat hd
    have hgd : (dw ts ds).getD i (0, 0) = cond ds[i] ts[i] (ts[i].2, ts[i].1) := by rw [List.getD_eq_getElem?_getD, hget]; rfl
    have hTm := List.mem_of_getElem? hget
    rw [Int.toNat_natCast, hgd]
    generalize hT : (cond ds[i] ts[i] (ts[i].2, ts[i].1)) = T at hTm
    have e5 := hix T.2 (hok T hTm).2
    have hstep : tb1__law_whirl ts ds ((rangeI 0 n).map L) (i : Int) () = TR.sq (TR.ob ((ixT ((rangeI 0 n).map L) T.2).bind fun v6 => .ok (!(decide (T.1 ∈ v6)))) fun k8 => cond k8 (.rt false) (.nx ())) fun g7 => .nx () := by
      unfold tb1__law_whirl
      rw [← hT]
      cases hb : ds[i] <;> simp only [e1, ob_ok, e2, hb, map_ok_, Bool.not_true, Bool.not_false, cond_true, cond_false, tsq_nx]
    rw [hstep, e5]
    by_cases c : T.1 ∈ L T.2
    · exact .inr ⟨by simp [c], .inl (by simp [c])⟩
    · exact .inl ⟨by simp [c], by simp [c]⟩)
  refine ⟨!((rangeI 0 ts.length).any fun k => !decide (((dw ts ds).getD k.toNat (0, 0)).1 ∈ L ((dw ts ds).getD k.toNat (0, 0)).2)), ?_, ?_⟩
  · unfold t__law_whirl
    simp only [e2, r_bind_ok, e3, ob_ok, e4, hsk]
    cases (rangeI 0 ts.length).any fun k => !decide (((dw ts ds).getD k.toNat (0, 0)).1 ∈ L ((dw ts ds).getD k.toNat (0, 0)).2) <;> rfl
  · rw [Bool.not_eq_true', List.any_eq_false]
    constructor
    · intro h t ht
      obtain ⟨j, hj⟩ := List.getElem?_of_mem ht
      have hjl := (List.getElem?_eq_some_iff.mp hj).1
      rw [dw_len hl] at hjl
      have := h (j : Int) (mem_rangeI.mpr ⟨by omega, by omega⟩)
      rw [Int.toNat_natCast, List.getD_eq_getElem?_getD, hj] at this
      exact ((hL t.2 (hok t ht).2).2 t.1).mp (by simpa using this)
    · intro h k hk
      obtain ⟨j, rfl⟩ := Int.eq_ofNat_of_zero_le (mem_rangeI.mp hk).1
      have hjl : j < (dw ts ds).length := by rw [dw_len hl]; have := (mem_rangeI.mp hk).2; omega
      have hm := List.getElem_mem hjl
      rw [Int.toNat_natCast, List.getD_eq_getElem?_getD, List.getElem?_eq_getElem hjl]
      have := ((hL _ (hok _ hm).2).2 _).mpr (h _ hm)
      simpa using this
end
end BW.Wk
namespace BW.Wk
open PySem PySem.Spec PyProof.Rows L2
/-! webs grown by ears, with directions along them -/
def rowF (one two pl : Int) (fr : Nat) (i : Nat) : Int := if i = 0 then one else if i ≤ fr then pl + ((i : Int) - 1) else two
def pairsF (one two pl : Int) (fr : Nat) : List (Int × Int) := (List.range (fr + 1)).map fun i => (rowF one two pl fr i, rowF one two pl fr (i + 1))
theorem row_get (one two pl : Int) (fr i : Nat) (hi : i ≤ fr + 1) : ([one] ++ rangeI pl fr ++ [two])[i]? = some (rowF one two pl fr i) := by
  unfold rowF
  cases i with
  | zero => rfl
  | succ i =>
    rw [if_neg (by omega)]
    show ((rangeI pl fr) ++ [two])[i]? = _
    by_cases h : i + 1 ≤ fr
    · rw [if_pos h, List.getElem?_append_left (by rw [rangeI_len]; omega), rangeI_get (by omega)]
      congr 1
      omega
    · rw [if_neg h, List.getElem?_append_right (by rw [rangeI_len]; omega), rangeI_len]
      have : i - fr = 0 := by omega
      rw [this]
      rfl
theorem pairs_mem {one two pl : Int} {fr i : Nat} (h : i ≤ fr) : (rowF one two pl fr i, rowF one two pl fr (i + 1)) ∈ pairsF one two pl fr := List.mem_map.mpr ⟨i, List.mem_range.mpr (by omega), rfl⟩
theorem pairs_rc {one two pl : Int} {fr : Nat} {W : List (Int × Int)} (hs : ∀ t ∈ pairsF one two pl fr, t ∈ W) (i : Nat) : ∀ j : Nat, i + j ≤ fr + 1 → Rc W (rowF one two pl fr i) (rowF one two pl fr (i + j))
  | 0, _ => .rf
  | j + 1, h => (pairs_rc hs i j (by omega)).st (hs _ (by rw [← Nat.add_assoc]; exact pairs_mem (by omega)))
/-- all hang together along the ties -/
structure Ears (pl : Int) (E : List (Int × Int)) : Prop where
  lo : 1 ≤ pl
  ins : ∀ t ∈ E, inM pl t
  rc : ∀ x y, 0 ≤ x → x < pl → 0 ≤ y → y < pl → Rc E x y
theorem rowF_in {one two pl : Int} {fr : Nat} (h1 : 0 ≤ one ∧ one < pl) (h2 : 0 ≤ two ∧ two < pl) (i : Nat) : 0 ≤ rowF one two pl fr i ∧ rowF one two pl fr i < pl + (fr : Int) := by
  unfold rowF
  split
  · omega
  · split <;> omega
theorem Ears.more {pl : Int} {E : List (Int × Int)} (h : Ears pl E) {one two : Int} {fr : Nat} (h1 : 0 ≤ one ∧ one < pl) (h2 : 0 ≤ two ∧ two < pl) : Ears (pl + (fr : Int)) (E ++ pairsF one two pl fr) := by
  have hlo := h.lo
  have hs : ∀ t ∈ pairsF one two pl fr, t ∈ E ++ pairsF one two pl fr := fun t ht => List.mem_append_right _ ht
  have hr0 : rowF one two pl fr 0 = one := rfl
  have hr1 : rowF one two pl fr (fr + 1) = two := by unfold rowF; rw [if_neg (by omega), if_neg (by omega)]
  have old : ∀ x y, 0 ≤ x → x < pl → 0 ≤ y → y < pl → Rc (E ++ pairsF one two pl fr) x y := fun x y a b c d => (h.rc x y a b c d).mono fun t ht => List.mem_append_left _ ht
  -- each place comes to the old ones, and is come to from them
  have to : ∀ x, 0 ≤ x → x < pl + (fr : Int) → Rc (E ++ pairsF one two pl fr) x two := fun x a b => by
    by_cases c : x < pl
    · exact old x two a c h2.1 h2.2
    · obtain ⟨j, hj⟩ := Int.eq_ofNat_of_zero_le (show 0 ≤ x - pl by omega)
      have hx : rowF one two pl fr (j + 1) = x := by unfold rowF; rw [if_neg (by omega), if_pos (by omega)]; omega
      have := pairs_rc hs (j + 1) (fr - j) (by omega)
      rw [hx, show j + 1 + (fr - j) = fr + 1 by omega, hr1] at this
      exact this
  have fro : ∀ x, 0 ≤ x → x < pl + (fr : Int) → Rc (E ++ pairsF one two pl fr) one x := fun x a b => by
    by_cases c : x < pl
    · exact old one x h1.1 h1.2 a c
    · obtain ⟨j, hj⟩ := Int.eq_ofNat_of_zero_le (show 0 ≤ x - pl by omega)
      have hx : rowF one two pl fr (j + 1) = x := by unfold rowF; rw [if_neg (by omega), if_pos (by omega)]; omega
      have := pairs_rc hs 0 (j + 1) (by omega)
      rw [Nat.zero_add, hx, hr0] at this
      exact this
  refine ⟨by omega, fun t ht => ?_, fun x y a b c d => (to x a b).trans ((old two one h2.1 h2.2 h1.1 h1.2).trans (fro y c d))⟩
  rcases List.mem_append.mp ht with z | z
  · have := h.ins t z
    unfold inM at this ⊢
    omega
  · obtain ⟨i, hi, rfl⟩ := List.mem_map.mp z
    have a := rowF_in (fr := fr) h1 h2 i
    have b := rowF_in (fr := fr) h1 h2 (i + 1)
    exact ⟨a.1, a.2, b.1, b.2⟩
theorem ears_step {ns : List Int} {most bound : Int} (hmo : most ≤ 20) (hbo : bound ≤ 40) {a : Int} (h0 : 0 ≤ a) (ha : a < (ns.length : Int)) {E : List (Int × Int)} {pl : Int} (h : Ears pl E) (hp : pl ≤ most) (hE : (E.length : Int) ≤ bound) :
    ∃ E' pl', tb1__law_led_ears ns most bound a (E, pl) = .nx (E', pl') ∧ Ears pl' E' ∧ pl' ≤ most ∧ (E'.length : Int) ≤ bound := by
  have hlo := h.lo
  obtain ⟨k, rfl⟩ := Int.eq_ofNat_of_zero_le h0
  have hk : k < ns.length := by omega
  have e1 : ixT ns (k : Int) = .ok ns[k] := ixT_nat hk
  have e2 : ∀ x : Int, modT x pl = .ok (x % pl) := fun x => modT_ok (by omega)
  have one0 := Int.emod_nonneg ns[k] (b := pl) (by omega)
  have one1 := Int.emod_lt_of_pos ns[k] (b := pl) (by omega)
  have two0 := Int.emod_nonneg (ns[k] / 20) (b := pl) (by omega)
  have two1 := Int.emod_lt_of_pos (ns[k] / 20) (b := pl) (by omega)
  unfold tb1__law_led_ears
  simp only [e1, ob_ok, e2]
  generalize ns[k] % pl = one at *
  generalize ns[k] / 20 % pl = two at *
  have hm4 : ns[k] / 400 % 4 < 4 := Int.emod_lt_of_pos _ (by decide)
  generalize hF : min (min (ns[k] / 400 % 4) (most - pl)) (bound - 1 - (E.length : Int)) = F
  by_cases hF0 : 0 ≤ F
  · have hF1 : F ≤ most - pl := by omega
    have hF2 : F ≤ bound - 1 - (E.length : Int) := by omega
    obtain ⟨fr, rfl⟩ := Int.eq_ofNat_of_zero_le hF0
    have e3 : rg2T pl (pl + (fr : Int)) = .ok (rangeI pl fr) := by
      have := rg2T_ok (i := pl) (n := pl + (fr : Int)) (by omega) (by omega) (by omega) (by omega)
      rw [this]
      congr 2
      omega
    have e4 : catT ([one] : List Int) (rangeI pl fr) = .ok ([one] ++ rangeI pl fr) := catT_ok (by rw [rangeI_len]; show 1 + fr ≤ _; omega)
    have e5 : catT ([one] ++ rangeI pl fr) ([two] : List Int) = .ok ([one] ++ rangeI pl fr ++ [two]) := catT_ok (by rw [List.length_append, rangeI_len]; show 1 + fr + 1 ≤ _; omega)
    have hrl : ([one] ++ rangeI pl fr ++ [two]).length = fr + 2 := by rw [List.length_append, List.length_append, rangeI_len]; show 1 + fr + 1 = _; omega
    have e6 : rangeT ((([one] ++ rangeI pl fr ++ [two]).length : Int) - 1) = .ok (rangeI 0 (fr + 1)) := by
      rw [hrl, show (((fr + 2 : Nat) : Int) - 1) = ((fr + 1 : Nat) : Int) by omega]
      exact rangeT_nat (by omega)
    have e7 : fLcT (fun _ => .ok true) (ty1__law_led_ears ([one] ++ rangeI pl fr ++ [two])) (rangeI 0 (fr + 1)) = .ok (pairsF one two pl fr) := by
      rw [fLcT_map (fun i : Int => (rowF one two pl fr i.toNat, rowF one two pl fr (i.toNat + 1))) (by rw [rangeI_len]; omega) (fun i hi => ?_)]
      · congr 1
        unfold pairsF
        rw [rangeI_0, List.map_map]
        apply List.map_congr_left
        intro j _
        show (rowF one two pl fr ((j : Int)).toNat, rowF one two pl fr (((j : Int)).toNat + 1)) = _
        rw [Int.toNat_natCast]
      · obtain ⟨j, rfl⟩ := Int.eq_ofNat_of_zero_le (mem_rangeI.mp hi).1
        have hj := (mem_rangeI.mp hi).2
        unfold ty1__law_led_ears
        have a1 : ixT ([one] ++ rangeI pl fr ++ [two]) (j : Int) = .ok (rowF one two pl fr j) := ixT_some (row_get one two pl fr j (by omega))
        have a2 : ixT ([one] ++ rangeI pl fr ++ [two]) ((j : Int) + 1) = .ok (rowF one two pl fr (j + 1)) := by
          have := ixT_some (row_get one two pl fr (j + 1) (by omega))
          rwa [show ((j + 1 : Nat) : Int) = (j : Int) + 1 by omega] at this
        simp only [a1, r_bind_ok, a2, Int.toNat_natCast]
    have hpl : (pairsF one two pl fr).length = fr + 1 := by unfold pairsF; rw [List.length_map, List.length_range]
    have e8 : extT E (pairsF one two pl fr) = .ok (E ++ pairsF one two pl fr) := extT_ok (by rw [hpl]; omega)
    refine ⟨E ++ pairsF one two pl fr, pl + (fr : Int), ?_, h.more ⟨one0, one1⟩ ⟨two0, two1⟩, by omega, by rw [List.length_append, hpl]; omega⟩
    simp only [decide_eq_true hF0, cond_true, e3, r_bind_ok, e4, e5, ob_ok, e6, e7, e8, tsq_nx]
  · refine ⟨E, pl, ?_, h, hp, hE⟩
    simp only [decide_eq_false hF0, cond_false, tsq_nx]
theorem insT_ok {α : Type} {l : List α} {n : Int} {y : α} (h0 : 0 ≤ n) (h1 : n < 2 ^ 62) (h2 : l.length < 16777216) : insT l n y = .ok (l.take n.toNat ++ [y] ++ l.drop n.toNat) := by
  unfold insT
  rw [if_pos ⟨h0, h1, h2⟩]
theorem mem_ins {α : Type} {l : List α} {n : Nat} {y x : α} : x ∈ l.take n ++ [y] ++ l.drop n ↔ x = y ∨ x ∈ l := by
  conv => rhs; rw [← List.take_append_drop n l]
  simp only [List.mem_append, List.mem_singleton]
  constructor
  · rintro ((h | h) | h)
    · exact .inr (.inl h)
    · exact .inl h
    · exact .inr (.inr h)
  · rintro (h | h | h)
    · exact .inl (.inr h)
    · exact .inl (.inl h)
    · exact .inr h
theorem order_t (len : Nat) (hz : len ≤ 1000) (m0 : Int) : ∃ (o : List Int) (mx : Int), (forT tb2__law_led_ears (rangeI 0 len) ([], m0) : TR Empty (List Int × Int) (Int × List (Int × Int) × List Bool)) = .nx (o, mx) ∧ o.length = len ∧ ∀ x, x ∈ o ↔ 0 ≤ x ∧ x < (len : Int) := by
  obtain ⟨⟨o, mx⟩, h0, h1, h2⟩ := forT_rgI (Λ := Empty) (b := tb2__law_led_ears) (n := len) (g0 := ([], m0)) (fun i g => g.1.length = i ∧ ∀ x, x ∈ g.1 ↔ 0 ≤ x ∧ x < (i : Int)) (by
    rintro i ⟨o, mx⟩ hi ⟨h1, h2⟩
    have h1 : o.length = i := h1
    have h2 : ∀ x, x ∈ o ↔ 0 ≤ x ∧ x < (i : Int) := h2
    unfold tb2__law_led_ears
    have e1 : mulT (mx * 48271 % 2147483647) (mx * 48271 % 2147483647) = .ok (mx * 48271 % 2147483647 * (mx * 48271 % 2147483647)) := mulT_l (mod_small _ (by decide) (by decide))
    generalize mx * 48271 % 2147483647 = y at *
    simp only [ob_ok, e1, r_bind_ok]
    generalize (y * y + 11 * (i : Int)) % 2147483629 = z at *
    have e2 : modT (z / 8) ((i : Int) + 1) = .ok (z / 8 % ((i : Int) + 1)) := modT_ok (by omega)
    have b0 := Int.emod_nonneg (z / 8) (b := (i : Int) + 1) (by omega)
    have b1 := Int.emod_lt_of_pos (z / 8) (b := (i : Int) + 1) (by omega)
    generalize z / 8 % ((i : Int) + 1) = v at *
    have e3 : insT o v (i : Int) = .ok (o.take v.toNat ++ [(i : Int)] ++ o.drop v.toNat) := insT_ok b0 (by omega) (by omega)
    refine ⟨(o.take v.toNat ++ [(i : Int)] ++ o.drop v.toNat, z), .inl ?_, ?_, fun x => ?_⟩
    · simp only [e2, r_bind_ok, e3, ob_ok]
    · show (o.take v.toNat ++ [(i : Int)] ++ o.drop v.toNat).length = i + 1
      simp only [List.length_append, List.length_take, List.length_drop, List.length_singleton]
      omega
    · show x ∈ o.take v.toNat ++ [(i : Int)] ++ o.drop v.toNat ↔ _
      rw [mem_ins, h2]
      omega) ⟨rfl, fun x => ⟨fun h => (by cases h), fun h => (by have := h.2; have := h.1; omega)⟩⟩
  exact ⟨o, mx, h0, h1, h2⟩
/-- what is drawn by ears: a web whose directions are a whirl -/
theorem lears_t (ns : List Int) (hns : ns.length ≤ 63) {at' most bound : Int} (ha0 : 0 ≤ at') (ha : at' ≤ 100) (hm1 : 1 ≤ most) (hm : most ≤ 20) (hb1 : 0 ≤ bound) (hb : bound ≤ 40) : ∃ (m : Int) (ts : List (Int × Int)) (ds : List Bool), t__law_led_ears ns at' most bound = .ok (m, ts, ds) ∧ Wb m ts ∧ m ≤ most ∧ (ts.length : Int) ≤ bound ∧ ds.length = ts.length ∧ whirlQ (dw ts ds) := by
  unfold t__law_led_ears
  have e0 : range2T at' (ns.length : Int) = .ok (rangeI at' ((ns.length : Int) - at').toNat) := range2T_ok ha0 (by omega) (by omega) (by omega)
  obtain ⟨⟨E, pl⟩, k0, k1, k2, k3⟩ := forT_inv (Λ := Empty) (b := tb1__law_led_ears ns most bound) (l := rangeI at' ((ns.length : Int) - at').toNat) (g0 := ([], (1 : Int))) (fun _ g => Ears g.2 g.1 ∧ g.2 ≤ most ∧ (g.1.length : Int) ≤ bound) (by
    rintro i a ⟨E, pl⟩ hi ⟨i1, i2, i3⟩
    have hm' := mem_rangeI.mp (List.mem_of_getElem? hi)
    obtain ⟨E', pl', q0, q1, q2, q3⟩ := ears_step (ns := ns) (a := a) hm hb (by omega) (by omega) i1 i2 i3
    exact ⟨(E', pl'), .inl q0, q1, q2, q3⟩) ⟨⟨by show (1 : Int) ≤ 1; omega, (fun t ht => by cases ht), fun x y a b c d => by
      have h1 : x = 0 := by have b : x < 1 := b; omega
      have h2 : y = 0 := by have d : y < 1 := d; omega
      rw [h1, h2]; exact .rf⟩, hm1, hb1⟩
  have k1 : Ears pl E := k1
  have k2 : pl ≤ most := k2
  have k3 : (E.length : Int) ≤ bound := k3
  have c1 : t__law_cell ns 1 = .ok (cellI ns 1) := cell_t (by decide)
  obtain ⟨o, mx, o0, o1, o2⟩ := order_t E.length (by omega) (1 + cellI ns 1 % 1000000007)
  have e3 : rangeT (E.length : Int) = .ok (rangeI 0 E.length) := rangeT_nat (by omega)
  have e4 : fLcT (fun _ => .ok true) (ty2__law_led_ears mx) o = .ok (o.map fun a => decide (mx / (a + 3) % 2 = 0)) := fLcT_map _ (by omega) fun a ha => by
    have := (o2 a).mp ha
    unfold ty2__law_led_ears
    have : fdivT mx (a + 3) = .ok (mx / (a + 3)) := fdivT_ok (by omega) (by omega)
    simp only [this, r_bind_ok]
  generalize hds : (o.map fun a => decide (mx / (a + 3) % 2 = 0)) = ds at e4
  have hdl : ds.length = E.length := by rw [← hds, List.length_map, o1]
  have e5 : rangeT (o.length : Int) = .ok (rangeI 0 o.length) := rangeT_nat (by omega)
  have hEg : ∀ a ∈ o, ixT E a = .ok (tieI E a) := fun a ha => by
    obtain ⟨j, rfl⟩ := Int.eq_ofNat_of_zero_le ((o2 a).mp ha).1
    have hj : j < E.length := by have := ((o2 (j : Int)).mp ha).2; omega
    rw [ixT_nat hj]
    unfold tieI
    rw [Int.toNat_natCast, List.getD_eq_getElem?_getD, List.getElem?_eq_getElem hj]
    rfl
  have k := forT_rg (Λ := Empty) (ρ := Int × List (Int × Int) × List Bool) (b := tb3__law_led_ears E o ds) (n := o.length) (fun i => ((o.zip ds).take i).map fun a => cond a.2 (tieI E a.1) ((tieI E a.1).2, (tieI E a.1).1)) (fun i hi => by
    have hid : i < ds.length := by omega
    have hz : (o.zip ds)[i]? = some (o[i], ds[i]) := (List.getElem?_zip_eq_some (z := (o[i], ds[i]))).mpr ⟨List.getElem?_eq_getElem hi, List.getElem?_eq_getElem hid⟩
    have a1 : ixT o (i : Int) = .ok o[i] := ixT_nat hi
    have a2 : ixT ds (i : Int) = .ok ds[i] := ixT_nat hid
    have a3 := hEg o[i] (List.getElem_mem hi)
    have a4 : ∀ t : Int × Int, appT (((o.zip ds).take i).map fun a => cond a.2 (tieI E a.1) ((tieI E a.1).2, (tieI E a.1).1)) t = .ok ((((o.zip ds).take i).map fun a => cond a.2 (tieI E a.1) ((tieI E a.1).2, (tieI E a.1).1)) ++ [t]) := fun t => appT_ok (by rw [List.length_map, List.length_take]; omega)
    refine .inl ?_
    rw [List.take_add_one, hz, List.map_append]
    unfold tb3__law_led_ears
    cases hb : ds[i] <;> simp only [a1, r_bind_ok, a3, ob_ok, a2, hb, map_ok_, Bool.not_true, Bool.not_false, cond_true, cond_false, tsq_nx, a4] <;> simp [hb])
  have hzl : (o.zip ds).length = E.length := by rw [List.length_zip, o1, hdl, Nat.min_self]
  rw [List.take_of_length_le (l := o.zip ds) (i := o.length) (by omega), List.take_zero] at k
  generalize hts : ((o.zip ds).map fun a => cond a.2 (tieI E a.1) ((tieI E a.1).2, (tieI E a.1).1)) = ts at k
  have hk : (forT (tb3__law_led_ears E o ds) (rangeI 0 o.length) [] : TR Empty (List (Int × Int)) (Int × List (Int × Int) × List Bool)) = .nx ts := k
  have htl : ts.length = E.length := by rw [← hts, List.length_map, hzl]
  -- along the directions the ties are those of the ears
  have hdw : dw ts ds = o.map (tieI E) := by
    apply List.ext_getElem?
    intro i
    by_cases hi : i < o.length
    · have hid : i < ds.length := by omega
      have hit : i < ts.length := by omega
      have hz : (o.zip ds)[i]? = some (o[i], ds[i]) := (List.getElem?_zip_eq_some (z := (o[i], ds[i]))).mpr ⟨List.getElem?_eq_getElem hi, List.getElem?_eq_getElem hid⟩
      have hti : ts[i]? = some (cond ds[i] (tieI E o[i]) ((tieI E o[i]).2, (tieI E o[i]).1)) := by rw [← hts, List.getElem?_map, hz]; rfl
      unfold dw
      rw [List.getElem?_map, (List.getElem?_zip_eq_some (z := (cond ds[i] (tieI E o[i]) ((tieI E o[i]).2, (tieI E o[i]).1), ds[i]))).mpr ⟨hti, List.getElem?_eq_getElem hid⟩, List.getElem?_map, List.getElem?_eq_getElem hi]
      show some _ = some _
      congr 1
      cases ds[i] <;> rfl
    · rw [List.getElem?_eq_none (by rw [dw_len (by omega)]; omega), List.getElem?_eq_none (by rw [List.length_map]; omega)]
  have hmem : ∀ t, t ∈ dw ts ds ↔ t ∈ E := fun t => by
    rw [hdw, List.mem_map]
    constructor
    · rintro ⟨a, ha, rfl⟩
      obtain ⟨j, rfl⟩ := Int.eq_ofNat_of_zero_le ((o2 a).mp ha).1
      have hj : j < E.length := by have := ((o2 (j : Int)).mp ha).2; omega
      unfold tieI
      rw [Int.toNat_natCast, List.getD_eq_getElem?_getD, List.getElem?_eq_getElem hj]
      exact List.getElem_mem hj
    · intro ht
      obtain ⟨j, hj⟩ := List.getElem?_of_mem ht
      have hjl := (List.getElem?_eq_some_iff.mp hj).1
      refine ⟨(j : Int), (o2 _).mpr ⟨by omega, by omega⟩, ?_⟩
      unfold tieI
      rw [Int.toNat_natCast, List.getD_eq_getElem?_getD, hj]
      rfl
  have hin : ∀ t ∈ ts, inM pl t := fun t ht => by
    rw [← hts] at ht
    obtain ⟨⟨a, b⟩, hab, rfl⟩ := List.mem_map.mp ht
    have ha : a ∈ o := (List.of_mem_zip hab).1
    have hE : tieI E a ∈ E := (hmem _).mp (by rw [hdw]; exact List.mem_map.mpr ⟨a, ha, rfl⟩)
    have := k1.ins _ hE
    unfold inM at this ⊢
    cases b
    · exact ⟨this.2.2.1, this.2.2.2, this.1, this.2.1⟩
    · exact this
  refine ⟨pl, ts, ds, ?_, ⟨k1.lo, by omega, by omega, hin⟩, k2, by omega, by omega, fun t ht => ?_⟩
  · simp only [e0, ob_ok, k0, tsq_nx, c1, r_bind_ok, e3, o0, e4, e5, hk, out_rt]
  · have hE := (hmem t).mp ht
    have hi := k1.ins t hE
    exact (k1.rc t.2 t.1 hi.2.2.1 hi.2.2.2 hi.1 hi.2.1).mono fun s hs => (hmem s).mpr hs
end BW.Wk
namespace BW.Wk
open PySem PySem.Spec PyProof.Rows L2
def nmq (f : Int → Int) (p : List (Int × Int)) : List (Int × Int) := p.map fun t => (f t.1, f t.2)
/-! whirls counted over all directions, tie by tie; taking out and joining -/
/-- the names put in another way: b by a -/
def rn (a b x : Int) : Int := cond (decide (x = b)) a x
theorem rn_b {a b : Int} : rn a b b = a := by unfold rn; rw [decide_eq_true rfl]; rfl
theorem rn_ne {a b x : Int} (h : x ≠ b) : rn a b x = x := by unfold rn; rw [decide_eq_false h]; rfl
theorem rn_a {a b : Int} : rn a b a = a := by
  by_cases h : a = b
  · subst h; exact rn_b
  · exact rn_ne h
theorem rn_eq {a b x y : Int} : rn a b x = rn a b y ↔ x = y ∨ ((x = a ∨ x = b) ∧ (y = a ∨ y = b)) := by
  by_cases hx : x = b <;> by_cases hy : y = b
  · subst hx; subst hy; simp
  · subst hx
    rw [rn_b, rn_ne hy]
    constructor
    · rintro rfl; exact .inr ⟨.inr rfl, .inl rfl⟩
    · rintro (h | ⟨_, h | h⟩)
      · exact absurd h.symm hy
      · exact h.symm
      · exact absurd h hy
  · subst hy
    rw [rn_b, rn_ne hx]
    constructor
    · rintro rfl; exact .inr ⟨.inl rfl, .inr rfl⟩
    · rintro (h | ⟨h | h, _⟩)
      · exact absurd h hx
      · exact h
      · exact absurd h hx
  · rw [rn_ne hx, rn_ne hy]
    constructor
    · exact .inl
    · rintro (h | ⟨h | h, k | k⟩)
      · exact h
      · rw [h, k]
      · exact absurd k hy
      · exact absurd h hx
      · exact absurd h hx
section
variable {a b : Int} {ways ways' w w' p : List (Int × Int)}
theorem rc_map {f : Int → Int} {x y : Int} (h : Rc ways x y) (k : ∀ t ∈ ways, Rc ways' (f t.1) (f t.2)) : Rc ways' (f x) (f y) := by
  induction h with
  | rf => exact .rf
  | st _ h2 ih => exact ih.trans (k _ h2)
theorem rc_add {x y : Int} (h : Rc ((a, b) :: ways) x y) : Rc ways x y ∨ (Rc ways x a ∧ Rc ways b y) := by
  induction h with
  | rf => exact .inl .rf
  | st _ h2 ih =>
    rcases List.mem_cons.mp h2 with e | h2
    · cases e
      rcases ih with h | h
      · exact .inr ⟨h, .rf⟩
      · exact .inr ⟨h.1, .rf⟩
    · rcases ih with h | h
      · exact .inl (h.st h2)
      · exact .inr ⟨h.1, h.2.st h2⟩
theorem rc_quot {x' y' : Int} (h : Rc (nmq (rn a b) ways) x' y') : ∀ x y, rn a b x = x' → rn a b y = y' → Rc ways x y ∨ ((Rc ways x a ∨ Rc ways x b) ∧ (Rc ways a y ∨ Rc ways b y)) := by
  induction h with
  | rf =>
    intro x y hx hy
    rcases rn_eq.mp (hx.trans hy.symm) with e | ⟨e1, e2⟩
    · subst e; exact .inl .rf
    · refine .inr ⟨?_, ?_⟩
      · rcases e1 with rfl | rfl
        · exact .inl .rf
        · exact .inr .rf
      · rcases e2 with rfl | rfl
        · exact .inl .rf
        · exact .inr .rf
  | st _ h2 ih =>
    intro x y hx hy
    unfold nmq at h2
    obtain ⟨⟨r, s⟩, hm, e⟩ := List.mem_map.mp h2
    have e1 : rn a b r = _ := congrArg Prod.fst e
    have e2 : rn a b s = _ := congrArg Prod.snd e
    rcases rn_eq.mp (e2.trans hy.symm) with e | ⟨k1, k2⟩
    · subst e
      rcases ih x r hx e1 with h | ⟨h, h' | h'⟩
      · exact .inl (h.st hm)
      · exact .inr ⟨h, .inl (h'.st hm)⟩
      · exact .inr ⟨h, .inr (h'.st hm)⟩
    · have g2 : Rc ways a y ∨ Rc ways b y := by
        rcases k2 with rfl | rfl
        · exact .inl .rf
        · exact .inr .rf
      rcases ih x r hx e1 with h | ⟨h, _⟩
      · refine .inr ⟨?_, g2⟩
        rcases k1 with rfl | rfl
        · exact .inl (h.st hm)
        · exact .inr (h.st hm)
      · exact .inr ⟨h, g2⟩
theorem rc_ren {x y : Int} (h : Rc ways x y) : Rc (nmq (rn a b) ways) (rn a b x) (rn a b y) := rc_map h fun t ht => Rc.st .rf (List.mem_map.mpr ⟨t, ht, rfl⟩)
theorem rc_ren1 {x y : Int} (h : Rc ((a, b) :: ways) x y) : Rc (nmq (rn a b) ways) (rn a b x) (rn a b y) := rc_map h fun t ht => by
  rcases List.mem_cons.mp ht with e | ht
  · subst e
    show Rc _ (rn a b a) (rn a b b)
    rw [rn_a, rn_b]
    exact .rf
  · exact Rc.st .rf (List.mem_map.mpr ⟨t, ht, rfl⟩)
theorem rc_ren2 {x y : Int} (h : Rc ((b, a) :: ways) x y) : Rc (nmq (rn a b) ways) (rn a b x) (rn a b y) := rc_map h fun t ht => by
  rcases List.mem_cons.mp ht with e | ht
  · subst e
    show Rc _ (rn a b b) (rn a b a)
    rw [rn_a, rn_b]
    exact .rf
  · exact Rc.st .rf (List.mem_map.mpr ⟨t, ht, rfl⟩)
/-! what hangs together -/
def bw (p : List (Int × Int)) : List (Int × Int) := p ++ p.map fun t => (t.2, t.1)
theorem mem_bw {t : Int × Int} : t ∈ bw p ↔ t ∈ p ∨ (t.2, t.1) ∈ p := by
  unfold bw
  rw [List.mem_append]
  constructor
  · rintro (h | h)
    · exact .inl h
    · obtain ⟨s, hs, rfl⟩ := List.mem_map.mp h
      exact .inr hs
  · rintro (h | h)
    · exact .inl h
    · exact .inr (List.mem_map.mpr ⟨_, h, rfl⟩)
def Cu (p : List (Int × Int)) (x y : Int) : Prop := Rc (bw p) x y
theorem Cu.trans {x y z : Int} (h : Cu p x y) (k : Cu p y z) : Cu p x z := Rc.trans h k
theorem Cu.symm {x y : Int} (h : Cu p x y) : Cu p y x := by
  unfold Cu at h ⊢
  induction h with
  | rf => exact .rf
  | st _ h2 ih =>
    refine Rc.trans (Rc.st .rf (mem_bw.mpr ?_)) ih
    exact (mem_bw.mp h2).symm
theorem Cu.map {f : Int → Int} {q : List (Int × Int)} {x y : Int} (h : Cu p x y) (k : ∀ t ∈ p, Cu q (f t.1) (f t.2)) : Cu q (f x) (f y) := rc_map h fun t ht => by
  rcases mem_bw.mp ht with z | z
  · exact k t z
  · exact (k _ z).symm
theorem Cu.tie {t : Int × Int} (h : t ∈ p) : Cu p t.1 t.2 := Rc.st .rf (mem_bw.mpr (.inl h))
theorem Cu.mono {q : List (Int × Int)} {x y : Int} (h : Cu p x y) (k : ∀ t ∈ p, t ∈ q ∨ (t.2, t.1) ∈ q) : Cu q x y := Cu.map (f := id) h fun t ht => (k t ht).elim Cu.tie fun z => (Cu.tie z).symm
theorem Cu.of {x y : Int} (h : Rc ways x y) : Cu ways x y := Rc.mono (fun t ht => mem_bw.mpr (.inl ht)) h
/-- in a whirl what hangs together is come to -/
theorem whirl_cu (h : whirlQ ways) {x y : Int} (k : Cu ways x y) : Rc ways x y := by
  have := rc_map (f := id) (ways' := ways) k fun t ht => by
    rcases mem_bw.mp ht with z | z
    · exact Rc.st .rf z
    · exact h _ z
  exact this
/-! one tie more, at directions given -/
theorem leaf_up1 (h : whirlQ ((a, b) :: ways)) : whirlQ (nmq (rn a b) ways) := fun t ht => by
  obtain ⟨s, hs, rfl⟩ := List.mem_map.mp ht
  exact rc_ren1 (h s (List.mem_cons_of_mem _ hs))
theorem leaf_up2 (h : whirlQ ((b, a) :: ways)) : whirlQ (nmq (rn a b) ways) := fun t ht => by
  obtain ⟨s, hs, rfl⟩ := List.mem_map.mp ht
  exact rc_ren2 (h s (List.mem_cons_of_mem _ hs))
theorem leaf_back {a b : Int} (h : whirlQ ((a, b) :: ways)) : Rc ways b a := by
  rcases rc_add (h (a, b) List.mem_cons_self) with k | k
  · exact k
  · exact k.1
theorem leaf_both (h1 : whirlQ ((a, b) :: ways)) (h2 : whirlQ ((b, a) :: ways)) : whirlQ ways := fun t ht => by
  rcases rc_add (h1 t (List.mem_cons_of_mem _ ht)) with k | k
  · exact k
  · exact (k.1.trans (leaf_back h2)).trans k.2
theorem leaf_down (h : whirlQ ways) (k : Rc ways b a) : whirlQ ((a, b) :: ways) := fun t ht => by
  rcases List.mem_cons.mp ht with e | ht
  · subst e
    exact k.mono fun s hs => List.mem_cons_of_mem _ hs
  · exact (h t ht).mono fun s hs => List.mem_cons_of_mem _ hs
theorem leaf_one (h : whirlQ (nmq (rn a b) ways)) (k : Rc ways b a) : whirlQ ((a, b) :: ways) := fun t ht => by
  have ms : ∀ {x y : Int}, Rc ways x y → Rc ((a, b) :: ways) x y := fun z => z.mono fun s hs => List.mem_cons_of_mem _ hs
  have ab : Rc ((a, b) :: ways) a b := Rc.st .rf List.mem_cons_self
  rcases List.mem_cons.mp ht with e | ht
  · subst e
    exact ms k
  · have q := h _ (List.mem_map.mpr ⟨t, ht, rfl⟩)
    rcases rc_quot q t.2 t.1 rfl rfl with z | ⟨z1, z2⟩
    · exact ms z
    · have c1 : Rc ((a, b) :: ways) t.2 a := by
        rcases z1 with z | z
        · exact ms z
        · exact (ms z).trans (ms k)
      have c2 : Rc ((a, b) :: ways) a t.1 := by
        rcases z2 with z | z
        · exact ms z
        · exact ab.trans (ms z)
      exact c1.trans c2
theorem leaf_sep (h : whirlQ (nmq (rn a b) ways)) (n : ¬ whirlQ ways) : Rc ways b a ∨ Rc ways a b := by
  have : ∃ t, t ∈ ways ∧ ¬ Rc ways t.2 t.1 := by
    refine Classical.byContradiction fun z => n fun t ht => Classical.byContradiction fun y => z ⟨t, ht, y⟩
  obtain ⟨t, ht, nt⟩ := this
  have q := h _ (List.mem_map.mpr ⟨t, ht, rfl⟩)
  have tt : Rc ways t.1 t.2 := Rc.st .rf ht
  rcases rc_quot q t.2 t.1 rfl rfl with z | ⟨z1 | z1, z2 | z2⟩
  · exact absurd z nt
  · exact absurd (z1.trans z2) nt
  · exact .inl ((z2.trans tt).trans z1)
  · exact .inr ((z2.trans tt).trans z1)
  · exact absurd (z1.trans z2) nt
/-- one or nought -/
noncomputable def inW (P : Prop) : Nat := @ite _ P (Classical.propDecidable P) 1 0
theorem inW_t {P : Prop} (h : P) : inW P = 1 := if_pos h
theorem inW_f {P : Prop} (h : ¬ P) : inW P = 0 := if_neg h
theorem inW_iff {P Q : Prop} (h : P ↔ Q) : inW P = inW Q := by
  by_cases p : P
  · rw [inW_t p, inW_t (h.mp p)]
  · rw [inW_f p, inW_f fun q => p (h.mpr q)]
theorem leaf_dc (hc : Cu ways a b) : inW (whirlQ ((a, b) :: ways)) + inW (whirlQ ((b, a) :: ways)) = inW (whirlQ ways) + inW (whirlQ (nmq (rn a b) ways)) := by
  have up : whirlQ ((a, b) :: ways) → whirlQ (nmq (rn a b) ways) := leaf_up1
  have up2 : whirlQ ((b, a) :: ways) → whirlQ (nmq (rn a b) ways) := leaf_up2
  have swap : Rc ways a b → whirlQ (nmq (rn a b) ways) → whirlQ ((b, a) :: ways) := fun k h => by
    refine leaf_one (a := b) (b := a) (fun t ht => ?_) k
    obtain ⟨s, hs, rfl⟩ := List.mem_map.mp ht
    have q := h _ (List.mem_map.mpr ⟨s, hs, rfl⟩)
    have m : ∀ x, rn b a (rn a b x) = rn b a x := fun x => by
      by_cases e : x = b
      · subst e; rw [rn_b, rn_b, rn_a]
      · rw [rn_ne e]
    have q2 := rc_map (f := rn b a) (ways' := nmq (rn b a) ways) q fun u hu => by
      obtain ⟨v, hv, rfl⟩ := List.mem_map.mp hu
      show Rc _ (rn b a (rn a b v.1)) (rn b a (rn a b v.2))
      rw [m, m]
      exact Rc.st .rf (List.mem_map.mpr ⟨v, hv, rfl⟩)
    have q3 : Rc (nmq (rn b a) ways) (rn b a (rn a b s.2)) (rn b a (rn a b s.1)) := q2
    rw [m, m] at q3
    exact q3
  by_cases x : whirlQ ways
  · have r1 := whirl_cu x hc
    have r2 := whirl_cu x hc.symm
    have n1 := leaf_down x r2
    have n2 := leaf_down x r1
    rw [inW_t x, inW_t n1, inW_t n2, inW_t (up n1)]
  · have no : ¬ (whirlQ ((a, b) :: ways) ∧ whirlQ ((b, a) :: ways)) := fun z => x (leaf_both z.1 z.2)
    rw [inW_f x]
    by_cases y : whirlQ (nmq (rn a b) ways)
    · rw [inW_t y]
      rcases leaf_sep y x with r | r
      · have n1 := leaf_one y r
        rw [inW_t n1, inW_f fun z => no ⟨n1, z⟩]
      · have n2 := swap r y
        rw [inW_t n2, inW_f fun z => no ⟨z, n2⟩]
    · rw [inW_f y, inW_f fun z => y (up z), inW_f fun z => y (up2 z)]
theorem leaf_br1 (hc : ¬ Cu ways a b) : ¬ whirlQ ((a, b) :: ways) := fun h => hc (Cu.of (leaf_back h)).symm
theorem leaf_br2 (hc : ¬ Cu ways a b) : ¬ whirlQ ((b, a) :: ways) := fun h => hc (Cu.of (leaf_back h))
theorem leaf_br (hc : ¬ Cu ways a b) : whirlQ (nmq (rn a b) ways) ↔ whirlQ ways := by
  constructor
  · intro h
    refine Classical.byContradiction fun n => ?_
    rcases leaf_sep h n with r | r
    · exact hc (Cu.of r).symm
    · exact hc (Cu.of r)
  · intro h t ht
    obtain ⟨s, hs, rfl⟩ := List.mem_map.mp ht
    exact rc_ren (h s hs)
theorem leaf_loop : whirlQ ((a, a) :: ways) ↔ whirlQ ways := by
  have m : ∀ {x y : Int}, Rc ((a, a) :: ways) x y → Rc ways x y := fun h => by
    rcases rc_add h with z | z
    · exact z
    · exact z.1.trans z.2
  constructor
  · exact fun h t ht => m (h t (List.mem_cons_of_mem _ ht))
  · exact fun h => leaf_down h .rf
theorem whirl_congr (h : ∀ t, t ∈ w ↔ t ∈ w') : whirlQ w ↔ whirlQ w' :=
  ⟨fun k t ht => (k t ((h t).mpr ht)).mono fun s hs => (h s).mp hs, fun k t ht => (k t ((h t).mp ht)).mono fun s hs => (h s).mpr hs⟩
/-! summed over the directions of the others -/
noncomputable def Wc : List (Int × Int) → List (Int × Int) → Nat
  | [], w => inW (whirlQ w)
  | t :: p, w => Wc p (t :: w) + Wc p ((t.2, t.1) :: w)
end
theorem wc_congr : ∀ (p : List (Int × Int)) {w w' : List (Int × Int)}, (∀ t, t ∈ w ↔ t ∈ w') → Wc p w = Wc p w'
  | [], _, _, h => inW_iff (whirl_congr h)
  | t :: p, w, w', h => by
    show Wc p (t :: w) + Wc p ((t.2, t.1) :: w) = Wc p (t :: w') + Wc p ((t.2, t.1) :: w')
    rw [wc_congr p (w := t :: w) (w' := t :: w') fun s => by simp only [List.mem_cons, h], wc_congr p (w := (t.2, t.1) :: w) (w' := (t.2, t.1) :: w') fun s => by simp only [List.mem_cons, h]]
theorem wc_swap {p : List (Int × Int)} {s t : Int × Int} {w : List (Int × Int)} : Wc p (s :: t :: w) = Wc p (t :: s :: w) := wc_congr p fun u => by
  simp only [List.mem_cons]
  constructor <;> (rintro (h | h | h) <;> simp [h])
theorem wc_perm {p q : List (Int × Int)} (h : p.Perm q) : ∀ w, Wc p w = Wc q w := by
  induction h with
  | nil => exact fun _ => rfl
  | cons t _ ih =>
    intro w
    show Wc _ (t :: w) + Wc _ ((t.2, t.1) :: w) = Wc _ (t :: w) + Wc _ ((t.2, t.1) :: w)
    rw [ih, ih]
  | swap s t p =>
    intro w
    show (Wc p (s :: t :: w) + Wc p ((s.2, s.1) :: t :: w)) + (Wc p (s :: (t.2, t.1) :: w) + Wc p ((s.2, s.1) :: (t.2, t.1) :: w)) = (Wc p (t :: s :: w) + Wc p ((t.2, t.1) :: s :: w)) + (Wc p (t :: (s.2, s.1) :: w) + Wc p ((t.2, t.1) :: (s.2, s.1) :: w))
    rw [wc_swap (s := s) (t := t), wc_swap (s := (s.2, s.1)) (t := t), wc_swap (s := s) (t := (t.2, t.1)), wc_swap (s := (s.2, s.1)) (t := (t.2, t.1))]
    omega
  | trans _ _ i1 i2 => exact fun w => (i1 w).trans (i2 w)
theorem wc_turn {a b : Int} {p w : List (Int × Int)} : Wc ((a, b) :: p) w = Wc ((b, a) :: p) w := Nat.add_comm _ _
theorem wc_dc : ∀ (p : List (Int × Int)) {a b : Int} {w : List (Int × Int)}, Cu (p ++ w) a b → Wc p ((a, b) :: w) + Wc p ((b, a) :: w) = Wc p w + Wc (nmq (rn a b) p) (nmq (rn a b) w)
  | [], _, _, _, h => leaf_dc h
  | t :: p, a, b, w, h => by
    have h1 := wc_dc p (a := a) (b := b) (w := t :: w) (h.mono fun s hs => .inl (by simp only [List.mem_append, List.mem_cons] at hs ⊢; rcases hs with (h | h) | h <;> simp [h]))
    have h2 := wc_dc p (a := a) (b := b) (w := (t.2, t.1) :: w) (h.mono fun s hs => by
      simp only [List.mem_append, List.mem_cons] at hs ⊢
      rcases hs with (h | h) | h
      · exact .inr (by simp [h])
      · exact .inl (by simp [h])
      · exact .inl (by simp [h]))
    show (Wc p (t :: (a, b) :: w) + Wc p ((t.2, t.1) :: (a, b) :: w)) + (Wc p (t :: (b, a) :: w) + Wc p ((t.2, t.1) :: (b, a) :: w)) = (Wc p (t :: w) + Wc p ((t.2, t.1) :: w)) + (Wc (nmq (rn a b) p) (nmq (rn a b) (t :: w)) + Wc (nmq (rn a b) p) (nmq (rn a b) ((t.2, t.1) :: w)))
    rw [wc_swap (s := t) (t := (a, b)), wc_swap (s := (t.2, t.1)) (t := (a, b)), wc_swap (s := t) (t := (b, a)), wc_swap (s := (t.2, t.1)) (t := (b, a))]
    omega
theorem cu_turn {p w : List (Int × Int)} {t : Int × Int} {a b : Int} (h : ¬ Cu (t :: p ++ w) a b) : ¬ Cu (p ++ t :: w) a b ∧ ¬ Cu (p ++ (t.2, t.1) :: w) a b :=
  ⟨fun z => h (z.mono fun s hs => .inl (by simp only [List.cons_append, List.mem_append, List.mem_cons] at hs ⊢; rcases hs with h | h | h <;> simp [h])), fun z => h (z.mono fun s hs => by
    simp only [List.cons_append, List.mem_append, List.mem_cons] at hs ⊢
    rcases hs with h | h | h
    · exact .inl (by simp [h])
    · exact .inr (by simp [h])
    · exact .inl (by simp [h]))⟩
theorem wc_br : ∀ (p : List (Int × Int)) {a b : Int} {w : List (Int × Int)}, ¬ Cu (p ++ w) a b → Wc p ((a, b) :: w) + Wc p ((b, a) :: w) = 0 ∧ Wc (nmq (rn a b) p) (nmq (rn a b) w) = Wc p w
  | [], a, b, w, h => by
    have h : ¬ Cu w a b := h
    refine ⟨?_, inW_iff (leaf_br h)⟩
    show inW _ + inW _ = 0
    rw [inW_f (leaf_br1 h), inW_f (leaf_br2 h)]
  | t :: p, a, b, w, h => by
    obtain ⟨k1, k2⟩ := cu_turn h
    obtain ⟨h1, g1⟩ := wc_br p k1
    obtain ⟨h2, g2⟩ := wc_br p k2
    refine ⟨?_, ?_⟩
    · show (Wc p (t :: (a, b) :: w) + Wc p ((t.2, t.1) :: (a, b) :: w)) + (Wc p (t :: (b, a) :: w) + Wc p ((t.2, t.1) :: (b, a) :: w)) = 0
      rw [wc_swap (s := t) (t := (a, b)), wc_swap (s := (t.2, t.1)) (t := (a, b)), wc_swap (s := t) (t := (b, a)), wc_swap (s := (t.2, t.1)) (t := (b, a))]
      omega
    · show Wc (nmq (rn a b) p) (nmq (rn a b) (t :: w)) + Wc (nmq (rn a b) p) (nmq (rn a b) ((t.2, t.1) :: w)) = Wc p (t :: w) + Wc p ((t.2, t.1) :: w)
      rw [g1, g2]
theorem wc_loopw : ∀ (p : List (Int × Int)) {a : Int} {w : List (Int × Int)}, Wc p ((a, a) :: w) = Wc p w
  | [], _, _ => inW_iff leaf_loop
  | t :: p, a, w => by
    show Wc p (t :: (a, a) :: w) + Wc p ((t.2, t.1) :: (a, a) :: w) = Wc p (t :: w) + Wc p ((t.2, t.1) :: w)
    rw [wc_swap (s := t), wc_swap (s := (t.2, t.1)), wc_loopw p, wc_loopw p]
theorem wc_loop {p : List (Int × Int)} {a : Int} {w : List (Int × Int)} : Wc ((a, a) :: p) w = 2 * Wc p w := by
  show Wc p ((a, a) :: w) + Wc p ((a, a) :: w) = _
  rw [wc_loopw]
  omega
/-- how many whirls ties have -/
noncomputable def Wh (p : List (Int × Int)) : Nat := Wc p []
theorem wh_nil : Wh [] = 1 := inW_t fun _ h => by cases h
theorem wh_perm {p q : List (Int × Int)} (h : p.Perm q) : Wh p = Wh q := wc_perm h []
theorem wh_loop {p : List (Int × Int)} {a : Int} : Wh ((a, a) :: p) = 2 * Wh p := wc_loop
theorem wh_turn {a b : Int} {p : List (Int × Int)} : Wh ((a, b) :: p) = Wh ((b, a) :: p) := wc_turn
theorem wh_dc {p : List (Int × Int)} {a b : Int} (h : Cu p a b) : Wh ((a, b) :: p) = Wh p + Wh (nmq (rn a b) p) := wc_dc p (w := []) (by rw [List.append_nil]; exact h)
theorem wh_br {p : List (Int × Int)} {a b : Int} (h : ¬ Cu p a b) : Wh ((a, b) :: p) = 0 ∧ Wh (nmq (rn a b) p) = Wh p := wc_br p (w := []) (by rw [List.append_nil]; exact h)
end BW.Wk
namespace BW.Wk
open PySem PySem.Spec PyProof.Rows L2
/-! names put in other ways that tell the same ones apart -/
theorem mem_nmq {f : Int → Int} {p : List (Int × Int)} {t : Int × Int} : t ∈ nmq f p ↔ ∃ s ∈ p, (f s.1, f s.2) = t := List.mem_map
theorem nmq_app {f : Int → Int} {p q : List (Int × Int)} : nmq f (p ++ q) = nmq f p ++ nmq f q := List.map_append
/-- a name of p -/
def Nm (p : List (Int × Int)) (x : Int) : Prop := ∃ t ∈ p, x = t.1 ∨ x = t.2
theorem Nm.cons {p : List (Int × Int)} {x : Int} {s : Int × Int} (h : Nm p x) : Nm (s :: p) x := let ⟨t, ht, e⟩ := h; ⟨t, List.mem_cons_of_mem _ ht, e⟩
theorem Nm.fst {p : List (Int × Int)} {t : Int × Int} (h : t ∈ p) : Nm p t.1 := ⟨t, h, .inl rfl⟩
theorem Nm.snd {p : List (Int × Int)} {t : Int × Int} (h : t ∈ p) : Nm p t.2 := ⟨t, h, .inr rfl⟩
/-- f and g tell the same names of p apart -/
def SameK (f g : Int → Int) (p : List (Int × Int)) : Prop := ∀ x y, Nm p x → Nm p y → (f x = f y ↔ g x = g y)
/-- the one that f tells as x, told by g -/
theorem rc_same {f g : Int → Int} {w : List (Int × Int)} (h : SameK f g w) {x' y' : Int} (r : Rc (nmq f w) x' y') : ∀ x, Nm w x → f x = x' → x' = y' ∨ ∃ y, Nm w y ∧ f y = y' ∧ Rc (nmq g w) (g x) (g y) := by
  induction r with
  | rf => exact fun _ _ _ => .inl rfl
  | st _ h2 ih =>
    intro x hx ex
    obtain ⟨s, hs, e⟩ := mem_nmq.mp h2
    have e1 : f s.1 = _ := congrArg Prod.fst e
    have e2 : f s.2 = _ := congrArg Prod.snd e
    have st : Rc (nmq g w) (g s.1) (g s.2) := Rc.st .rf (mem_nmq.mpr ⟨s, hs, rfl⟩)
    rcases ih x hx ex with z | ⟨y, hy, ey, ry⟩
    · refine .inr ⟨s.2, .snd hs, e2, ?_⟩
      have : g x = g s.1 := (h x s.1 hx (.fst hs)).mp (by rw [ex, e1, z])
      rw [this]
      exact st
    · refine .inr ⟨s.2, .snd hs, e2, ?_⟩
      have : g y = g s.1 := (h y s.1 hy (.fst hs)).mp (by rw [ey, e1])
      rw [this] at ry
      exact ry.trans st
theorem whirl_same {f g : Int → Int} {w : List (Int × Int)} (h : SameK f g w) (k : whirlQ (nmq f w)) : whirlQ (nmq g w) := fun t ht => by
  obtain ⟨s, hs, rfl⟩ := mem_nmq.mp ht
  have q := k _ (mem_nmq.mpr ⟨s, hs, rfl⟩)
  rcases rc_same h q s.2 (.snd hs) rfl with z | ⟨y, hy, ey, ry⟩
  · have : g s.2 = g s.1 := (h s.2 s.1 (.snd hs) (.fst hs)).mp z
    show Rc _ (g s.2) (g s.1)
    rw [this]
    exact .rf
  · have : g y = g s.1 := (h y s.1 hy (.fst hs)).mp ey
    show Rc _ (g s.2) (g s.1)
    rw [← this]
    exact ry
theorem SameK.symm {f g : Int → Int} {p : List (Int × Int)} (h : SameK f g p) : SameK g f p := fun x y hx hy => (h x y hx hy).symm
theorem SameK.sub {f g : Int → Int} {p q : List (Int × Int)} (h : SameK f g p) (k : ∀ x, Nm q x → Nm p x) : SameK f g q := fun x y hx hy => h x y (k x hx) (k y hy)
theorem wc_same {f g : Int → Int} : ∀ (p : List (Int × Int)) {w : List (Int × Int)}, SameK f g (p ++ w) → Wc (nmq f p) (nmq f w) = Wc (nmq g p) (nmq g w)
  | [], _, h => inW_iff ⟨whirl_same h, whirl_same h.symm⟩
  | t :: p, w, h => by
    have nm : ∀ (u : Int × Int), (u = t ∨ u = (t.2, t.1)) → ∀ x, Nm (p ++ u :: w) x → Nm (t :: p ++ w) x := fun u hu x ⟨s, hs, e⟩ => by
      rw [List.mem_append, List.mem_cons] at hs
      rcases hs with z | z | z
      · exact ⟨s, by simp [z], e⟩
      · refine ⟨t, by simp, ?_⟩
        subst z
        rcases hu with rfl | rfl
        · exact e
        · exact e.symm
      · exact ⟨s, by simp [z], e⟩
    have h1 := wc_same p (w := t :: w) (h.sub (nm t (.inl rfl)))
    have h2 := wc_same p (w := (t.2, t.1) :: w) (h.sub (nm _ (.inr rfl)))
    show Wc (nmq f p) (nmq f (t :: w)) + Wc (nmq f p) (nmq f ((t.2, t.1) :: w)) = Wc (nmq g p) (nmq g (t :: w)) + Wc (nmq g p) (nmq g ((t.2, t.1) :: w))
    rw [h1, h2]
theorem wh_same {f g : Int → Int} {p : List (Int × Int)} (h : SameK f g p) : Wh (nmq f p) = Wh (nmq g p) := wc_same p (w := []) (by rw [List.append_nil]; exact h)
theorem nmq_id {p : List (Int × Int)} : nmq (fun x => x) p = p := by unfold nmq; exact List.map_id' p
theorem wh_ren {f : Int → Int} {p : List (Int × Int)} (h : ∀ x y, Nm p x → Nm p y → f x = f y → x = y) : Wh (nmq f p) = Wh p := by
  have := wh_same (f := f) (g := fun x => x) (p := p) fun x y hx hy => ⟨h x y hx hy, fun e => congrArg f e⟩
  rw [nmq_id] at this
  exact this
/-! apart from one another -/
theorem rc_apart {w w' : List (Int × Int)} (h : ∀ x, Nm w x → ¬ Nm w' x) {x y : Int} (r : Rc (w ++ w') x y) : Nm w x → Rc w x y ∧ (Nm w y) := by
  induction r with
  | rf => exact fun z => ⟨.rf, z⟩
  | st _ h2 ih =>
    intro z
    obtain ⟨i1, i2⟩ := ih z
    rcases List.mem_append.mp h2 with k | k
    · exact ⟨i1.st k, .snd k⟩
    · exact absurd (Nm.fst k) (h _ i2)
theorem whirl_apart {w w' : List (Int × Int)} (h : ∀ x, Nm w x → ¬ Nm w' x) : whirlQ (w ++ w') ↔ whirlQ w ∧ whirlQ w' := by
  constructor
  · intro k
    refine ⟨fun t ht => (rc_apart h (k t (List.mem_append_left _ ht)) (.snd ht)).1, fun t ht => ?_⟩
    have q := (k t (List.mem_append_right _ ht)).mono (ways' := w' ++ w) fun s hs => by
      rw [List.mem_append] at hs ⊢
      exact hs.symm
    exact (rc_apart (fun x a b => h x b a) q (.snd ht)).1
  · rintro ⟨k1, k2⟩ t ht
    rcases List.mem_append.mp ht with z | z
    · exact (k1 t z).mono fun s hs => List.mem_append_left _ hs
    · exact (k2 t z).mono fun s hs => List.mem_append_right _ hs
theorem wc_move : ∀ (p : List (Int × Int)) {q w v : List (Int × Int)}, (∀ x, Nm (p ++ w) x → ¬ Nm (q ++ v) x) → Wc (p ++ q) (w ++ v) = Wc p w * Wc q v
  | [], q, w, v, h => by
    have key : ∀ (q : List (Int × Int)) (v : List (Int × Int)), (∀ x, Nm w x → ¬ Nm (q ++ v) x) → Wc q (w ++ v) = inW (whirlQ w) * Wc q v := by
      intro q
      induction q with
      | nil =>
        intro v h
        have h : ∀ x, Nm w x → ¬ Nm v x := h
        show inW _ = inW _ * inW _
        rw [inW_iff (whirl_apart h)]
        by_cases a : whirlQ w <;> by_cases b : whirlQ v
        · rw [inW_t ⟨a, b⟩, inW_t a, inW_t b]
        · rw [inW_f fun z => b z.2, inW_f b]; omega
        · rw [inW_f fun z => a z.1, inW_f a]; omega
        · rw [inW_f fun z => a z.1, inW_f a]; omega
      | cons t q ih =>
        intro v h
        have h1 := ih (t :: v) fun x hx hy => h x hx (by
          obtain ⟨s, hs, e⟩ := hy
          refine ⟨s, ?_, e⟩
          simp only [List.cons_append, List.mem_append, List.mem_cons] at hs ⊢
          rcases hs with z | z | z <;> simp [z])
        have h2 := ih ((t.2, t.1) :: v) fun x hx hy => h x hx (by
          obtain ⟨s, hs, e⟩ := hy
          simp only [List.mem_append, List.mem_cons] at hs
          rcases hs with z | z | z
          · exact ⟨s, by simp [z], e⟩
          · subst z; exact ⟨t, by simp, e.symm⟩
          · exact ⟨s, by simp [z], e⟩)
        show Wc q (t :: (w ++ v)) + Wc q ((t.2, t.1) :: (w ++ v)) = inW (whirlQ w) * (Wc q (t :: v) + Wc q ((t.2, t.1) :: v))
        rw [Nat.mul_add, ← h1, ← h2, wc_congr q (w := t :: (w ++ v)) (w' := w ++ t :: v) fun s => by simp only [List.mem_cons, List.mem_append]; constructor <;> (rintro (z | z | z) <;> simp [z]), wc_congr q (w := (t.2, t.1) :: (w ++ v)) (w' := w ++ (t.2, t.1) :: v) fun s => by simp only [List.mem_cons, List.mem_append]; constructor <;> (rintro (z | z | z) <;> simp [z])]
    exact key q v h
  | t :: p, q, w, v, h => by
    have h1 := wc_move p (q := q) (w := t :: w) (v := v) fun x hx => h x (by
      obtain ⟨s, hs, e⟩ := hx
      refine ⟨s, ?_, e⟩
      simp only [List.cons_append, List.mem_append, List.mem_cons] at hs ⊢
      rcases hs with z | z | z <;> simp [z])
    have h2 := wc_move p (q := q) (w := (t.2, t.1) :: w) (v := v) fun x hx => h x (by
      obtain ⟨s, hs, e⟩ := hx
      simp only [List.mem_append, List.mem_cons] at hs
      rcases hs with z | z | z
      · exact ⟨s, by simp [z], e⟩
      · subst z; exact ⟨t, by simp, e.symm⟩
      · exact ⟨s, by simp [z], e⟩)
    show Wc (p ++ q) (t :: (w ++ v)) + Wc (p ++ q) ((t.2, t.1) :: (w ++ v)) = (Wc p (t :: w) + Wc p ((t.2, t.1) :: w)) * Wc q v
    rw [Nat.add_mul, ← h1, ← h2]
    rfl
theorem wh_apart {p q : List (Int × Int)} (h : ∀ x, Nm p x → ¬ Nm q x) : Wh (p ++ q) = Wh p * Wh q := wc_move p (w := []) (v := []) (by rw [List.append_nil, List.append_nil]; exact h)
theorem wh_loops {a : Int} {p : List (Int × Int)} : ∀ k : Nat, Wh (List.replicate k (a, a) ++ p) = 2 ^ k * Wh p
  | 0 => by rw [Nat.pow_zero, Nat.one_mul]; rfl
  | k + 1 => by
    rw [List.replicate_succ, List.cons_append, wh_loop, wh_loops k, Nat.pow_succ]
    generalize 2 ^ k = m
    rw [Nat.mul_comm m 2, Nat.mul_assoc]
/-! ties of which some lie beside one another -/
theorem nmq_rep {f : Int → Int} {k : Nat} {t : Int × Int} {p : List (Int × Int)} : nmq f (List.replicate k t ++ p) = List.replicate k (f t.1, f t.2) ++ nmq f p := by
  rw [nmq_app]
  unfold nmq
  rw [List.map_replicate]
theorem wh_many {a b : Int} {p : List (Int × Int)} (h : Cu p a b) : ∀ m : Nat, Wh (List.replicate m (a, b) ++ p) + Wh (nmq (rn a b) p) = 2 ^ m * Wh (nmq (rn a b) p) + Wh p
  | 0 => by rw [Nat.pow_zero, Nat.one_mul]; exact Nat.add_comm _ _
  | m + 1 => by
    have ih := wh_many h m
    have hc : Cu (List.replicate m (a, b) ++ p) a b := h.mono fun t ht => .inl (List.mem_append_right _ ht)
    rw [List.replicate_succ, List.cons_append, wh_dc hc, nmq_rep]
    show Wh _ + Wh (List.replicate m (rn a b a, rn a b b) ++ _) + _ = _
    rw [rn_a, rn_b, wh_loops, Nat.pow_succ, Nat.mul_two, Nat.add_mul]
    omega
theorem wh_many_br {a b : Int} {p : List (Int × Int)} (h : ¬ Cu p a b) : ∀ m : Nat, Wh (List.replicate (m + 1) (a, b) ++ p) + 2 * Wh (nmq (rn a b) p) = 2 ^ (m + 1) * Wh (nmq (rn a b) p)
  | 0 => by
    have := (wh_br h).1
    show Wh ((a, b) :: p) + _ = _
    rw [this]
    omega
  | m + 1 => by
    have ih := wh_many_br h m
    have hc : Cu (List.replicate (m + 1) (a, b) ++ p) a b := Cu.tie (t := (a, b)) (by rw [List.replicate_succ]; exact List.mem_append_left _ List.mem_cons_self)
    rw [List.replicate_succ, List.cons_append, wh_dc hc, nmq_rep]
    show Wh _ + Wh (List.replicate (m + 1) (rn a b a, rn a b b) ++ _) + _ = _
    rw [rn_a, rn_b, wh_loops, Nat.pow_succ 2 (m + 1), Nat.mul_two, Nat.add_mul]
    omega
end BW.Wk
namespace BW.Wk
open PySem PySem.Spec PyProof.Rows L2
/-! the sign of a count -/
/-! without bridges there is one -/
/-! all directions by numbers -/
def bitsB : Nat → Nat → List Bool
  | 0, _ => []
  | n + 1, c => decide (c % 2 = 1) :: bitsB n (c / 2)
def sN : Nat → (Nat → Nat) → Nat
  | 0, _ => 0
  | n + 1, f => sN n f + f n
theorem sN_two (f : Nat → Nat) : ∀ n, sN (2 * n) f = sN n fun c => f (2 * c) + f (2 * c + 1)
  | 0 => rfl
  | n + 1 => by
    show sN (2 * n) f + f (2 * n) + f (2 * n + 1) = sN n _ + (f (2 * n) + f (2 * n + 1))
    rw [sN_two f n]
    omega
theorem sN_add (f g : Nat → Nat) : ∀ n, sN n (fun c => f c + g c) = sN n f + sN n g
  | 0 => rfl
  | n + 1 => by
    show sN n _ + (f n + g n) = (sN n f + f n) + (sN n g + g n)
    rw [sN_add f g n]
    omega
theorem sN_congr {f g : Nat → Nat} (h : ∀ c, f c = g c) : ∀ n, sN n f = sN n g
  | 0 => rfl
  | n + 1 => by
    show sN n f + f n = sN n g + g n
    rw [sN_congr h n, h]
theorem dw_cons {t : Int × Int} {ts : List (Int × Int)} {b : Bool} {ds : List Bool} : dw (t :: ts) (b :: ds) = cond b t (t.2, t.1) :: dw ts ds := rfl
theorem sum_all : ∀ (ts w : List (Int × Int)), sN (2 ^ ts.length) (fun c => inW (whirlQ (dw ts (bitsB ts.length c) ++ w))) = Wc ts w
  | [], w => by
    show 0 + inW (whirlQ ([] ++ w)) = inW (whirlQ w)
    exact Nat.zero_add _
  | t :: ts, w => by
    have e : (2 : Nat) ^ (t :: ts).length = 2 * 2 ^ ts.length := by rw [List.length_cons, Nat.pow_succ]; omega
    rw [e, sN_two, sN_add]
    have mv : ∀ (u : Int × Int) (d : List (Int × Int)), inW (whirlQ ((u :: d) ++ w)) = inW (whirlQ (d ++ u :: w)) := fun u d => inW_iff (whirl_congr fun s => by
      simp only [List.cons_append, List.mem_cons, List.mem_append]
      constructor <;> (rintro (z | z | z) <;> simp [z]))
    have h0 : ∀ c, inW (whirlQ (dw (t :: ts) (bitsB (t :: ts).length (2 * c)) ++ w)) = inW (whirlQ (dw ts (bitsB ts.length c) ++ (t.2, t.1) :: w)) := fun c => by
      have : bitsB (t :: ts).length (2 * c) = false :: bitsB ts.length c := by
        show decide ((2 * c) % 2 = 1) :: bitsB ts.length (2 * c / 2) = _
        rw [show 2 * c / 2 = c by omega, decide_eq_false (by omega)]
      rw [this, dw_cons]
      exact mv _ _
    have h1 : ∀ c, inW (whirlQ (dw (t :: ts) (bitsB (t :: ts).length (2 * c + 1)) ++ w)) = inW (whirlQ (dw ts (bitsB ts.length c) ++ t :: w)) := fun c => by
      have : bitsB (t :: ts).length (2 * c + 1) = true :: bitsB ts.length c := by
        show decide ((2 * c + 1) % 2 = 1) :: bitsB ts.length ((2 * c + 1) / 2) = _
        rw [show (2 * c + 1) / 2 = c by omega, decide_eq_true (by omega)]
      rw [this, dw_cons]
      exact mv _ _
    rw [sN_congr h0, sN_congr h1, sum_all ts (t :: w), sum_all ts ((t.2, t.1) :: w)]
    exact Nat.add_comm _ _
end BW.Wk
namespace BW.Wk
open PySem PySem.Spec PyProof.Rows L2
/-! whirls by how many ties each two places have -/
/-- the ties that are counted -/
def exP (l : PK) : List (Int × Int) := l.flatMap fun x => List.replicate x.2.toNat x.1
theorem exP_cons {x : (Int × Int) × Int} {l : PK} : exP (x :: l) = List.replicate x.2.toNat x.1 ++ exP l := List.flatMap_cons
theorem exP_app {l m : PK} : exP (l ++ m) = exP l ++ exP m := List.flatMap_append
structure OkZ (l : PK) : Prop where
  nd : (l.map (·.1)).Nodup
  ps : ∀ x ∈ l, 0 < x.2
theorem lkZ_none {l : PK} {k : Int × Int} : lkZ l k = none ↔ k ∉ l.map (·.1) := by
  unfold lkZ
  rw [Option.map_eq_none_iff, List.find?_eq_none]
  constructor
  · intro h m
    obtain ⟨x, hx, e⟩ := List.mem_map.mp m
    exact h x hx (decide_eq_true e)
  · intro h x hx e
    exact h (List.mem_map.mpr ⟨x, hx, of_decide_eq_true e⟩)
theorem lkZ_cons {l : PK} {x : (Int × Int) × Int} {k : Int × Int} : lkZ (x :: l) k = if x.1 = k then some x.2 else lkZ l k := by
  unfold lkZ
  rw [List.find?_cons]
  by_cases c : x.1 = k
  · rw [decide_eq_true c, if_pos c]
    rfl
  · rw [decide_eq_false c, if_neg c]
theorem lkZ_mem {l : PK} {k : Int × Int} {m : Int} (h : lkZ l k = some m) : (k, m) ∈ l := by
  unfold lkZ at h
  obtain ⟨x, h1, rfl⟩ := Option.map_eq_some_iff.mp h
  have h2 := List.find?_some h1
  have h2 : x.1 = k := of_decide_eq_true h2
  rw [← h2]
  exact List.mem_of_find?_eq_some h1
theorem minZ_mem {l : PK} {k : Int × Int} (h : minZ l = some k) : k ∈ l.map (·.1) := by
  unfold minZ at h
  obtain ⟨x, h1, rfl⟩ := Option.map_eq_some_iff.mp h
  exact List.mem_map.mpr ⟨x, List.mem_of_getElem? h1, rfl⟩
theorem minZ_some {l : PK} (h : l ≠ []) : ∃ k, minZ l = some k := by
  unfold minZ
  have hp : 0 < l.length := List.length_pos_iff.mpr h
  have hb : ∀ (bt : Nat → Nat → Bool) (k : Nat), argBest bt k ≤ k := by
    intro bt k
    induction k with
    | zero => exact Nat.le_refl _
    | succ k ih =>
      unfold argBest
      split
      · exact Nat.le_refl _
      · exact Nat.le_succ_of_le ih
  have := hb (fun i j => PySem.W.dataLt ((l.map fun x => pkY x.1).getD i .none) ((l.map fun x => pkY x.1).getD j .none)) (l.length - 1)
  rw [List.getElem?_eq_getElem (by omega)]
  exact ⟨_, rfl⟩
theorem map_same {l : PK} {k : Int × Int} {n : Int} (h : k ∉ l.map (·.1)) : (l.map fun x => if x.1 = k then (x.1, n) else x) = l := by
  have : ∀ x ∈ l, (if x.1 = k then (x.1, n) else x) = x := fun x hx => if_neg fun e => h (List.mem_map.mpr ⟨x, hx, e⟩)
  rw [List.map_congr_left this]
  exact List.map_id' l
theorem keys_put {l : PK} {k : Int × Int} {n : Int} : (l.map fun x => if x.1 = k then (x.1, n) else x).map (·.1) = l.map (·.1) := by
  rw [List.map_map]
  refine List.map_congr_left fun x _ => ?_
  show (if x.1 = k then (x.1, n) else x).1 = x.1
  split <;> rfl
theorem rep_add {α : Type} {a b : Nat} {x : α} : List.replicate (a + b) x = List.replicate a x ++ List.replicate b x := by rw [List.replicate_append_replicate]
theorem ex_raise {k : Int × Int} {m : Int} (hm : 0 ≤ m) : ∀ {l : PK} {n : Int}, OkZ l → lkZ l k = some n → (exP (l.map fun x => if x.1 = k then (x.1, n + m) else x)).Perm (List.replicate m.toNat k ++ exP l)
  | [], _, _, h => by cases h
  | x :: l, n, o, h => by
    have o' : OkZ l := ⟨(List.nodup_cons.mp o.nd).2, fun y hy => o.ps y (List.mem_cons_of_mem _ hy)⟩
    have nd := (List.nodup_cons.mp o.nd).1
    rw [lkZ_cons] at h
    rw [List.map_cons, exP_cons, exP_cons]
    by_cases c : x.1 = k
    · rw [if_pos c] at h
      cases h
      rw [if_pos c, map_same (by rw [← c]; exact nd)]
      show (List.replicate (x.2 + m).toNat x.1 ++ exP l).Perm _
      have hx := o.ps x List.mem_cons_self
      rw [show (x.2 + m).toNat = m.toNat + x.2.toNat by omega, rep_add, c, List.append_assoc]
    · rw [if_neg c] at h
      rw [if_neg c]
      refine ((ex_raise hm o' h).append_left _).trans ?_
      rw [← List.append_assoc, ← List.append_assoc]
      exact List.perm_append_comm.append_right _
theorem ex_add {l : PK} {k : Int × Int} {m : Int} (o : OkZ l) (hm : 0 < m) : (exP (addZ l k m)).Perm (List.replicate m.toNat k ++ exP l) ∧ OkZ (addZ l k m) := by
  unfold addZ putZ
  cases h : lkZ l k with
  | none =>
    have hk := lkZ_none.mp h
    rw [if_neg (show ¬ (none : Option Int).isSome = true by decide)]
    refine ⟨?_, ?_, fun x hx => ?_⟩
    · rw [exP_app]
      show (exP l ++ exP [(k, 0 + m)]).Perm _
      have : exP [(k, 0 + m)] = List.replicate m.toNat k := by
        rw [exP_cons]
        show List.replicate (0 + m).toNat k ++ [] = _
        rw [List.append_nil, Int.zero_add]
      rw [this]
      exact List.perm_append_comm
    · rw [List.map_append]
      refine List.nodup_append.mpr ⟨o.nd, by simp, fun a ha b hb e => ?_⟩
      have hb : b = k := List.mem_singleton.mp hb
      rw [e, hb] at ha
      exact hk ha
    · rcases List.mem_append.mp hx with z | z
      · exact o.ps x z
      · rw [List.mem_singleton.mp z]
        show 0 < 0 + m
        omega
  | some n =>
    rw [if_pos (show (some n : Option Int).isSome = true from rfl)]
    refine ⟨ex_raise (Int.le_of_lt hm) o h, by rw [keys_put]; exact o.nd, fun x hx => ?_⟩
    obtain ⟨y, hy, rfl⟩ := List.mem_map.mp hx
    split
    · have := o.ps _ (lkZ_mem h)
      have this : 0 < n := this
      show 0 < n + m
      omega
    · exact o.ps y hy
theorem keys_add {l : PK} {k : Int × Int} {m : Int} {x : (Int × Int) × Int} (h : x ∈ addZ l k m) : x.1 = k ∨ x.1 ∈ l.map (·.1) := by
  unfold addZ putZ at h
  split at h
  · obtain ⟨y, hy, rfl⟩ := List.mem_map.mp h
    refine .inr ?_
    split <;> exact List.mem_map.mpr ⟨y, hy, rfl⟩
  · rcases List.mem_append.mp h with z | z
    · exact .inr (List.mem_map.mpr ⟨x, z, rfl⟩)
    · rw [List.mem_singleton.mp z]
      exact .inl rfl
theorem ex_drop {k : Int × Int} {m : Int} : ∀ {l : PK}, OkZ l → lkZ l k = some m → (exP l).Perm (List.replicate m.toNat k ++ exP (dropZ l k))
  | [], _, h => by cases h
  | x :: l, o, h => by
    have o' : OkZ l := ⟨(List.nodup_cons.mp o.nd).2, fun y hy => o.ps y (List.mem_cons_of_mem _ hy)⟩
    have nd := (List.nodup_cons.mp o.nd).1
    rw [lkZ_cons] at h
    have dc : dropZ (x :: l) k = if x.1 = k then dropZ l k else x :: dropZ l k := by
      unfold dropZ
      rw [List.filter_cons]
      by_cases c : x.1 = k <;> simp [c]
    rw [dc, exP_cons]
    by_cases c : x.1 = k
    · rw [if_pos c] at h
      cases h
      rw [if_pos c, c]
      have : dropZ l k = l := by
        unfold dropZ
        refine List.filter_eq_self.mpr fun y hy => decide_eq_true fun e => nd ?_
        exact List.mem_map.mpr ⟨y, hy, e.trans c.symm⟩
      rw [this]
    · rw [if_neg c] at h
      rw [if_neg c, exP_cons]
      refine ((ex_drop o' h).append_left _).trans ?_
      rw [← List.append_assoc, ← List.append_assoc]
      exact List.perm_append_comm.append_right _
theorem drop_ok {l : PK} {k : Int × Int} (o : OkZ l) : OkZ (dropZ l k) := ⟨o.nd.sublist (List.filter_sublist.map _), fun x hx => o.ps x (List.mem_filter.mp hx).1⟩
theorem drop_ne {l : PK} {k : Int × Int} {x : (Int × Int) × Int} (h : x ∈ dropZ l k) : x ∈ l ∧ x.1 ≠ k := ⟨(List.mem_filter.mp h).1, of_decide_eq_true (List.mem_filter.mp h).2⟩
theorem drop_len {l : PK} {k : Int × Int} (h : k ∈ l.map (·.1)) : (dropZ l k).length + 1 ≤ l.length := by
  obtain ⟨x, hx, e⟩ := List.mem_map.mp h
  have : (dropZ l k).length < l.length := by
    unfold dropZ
    refine List.length_filter_lt_length_iff_exists.mpr ⟨x, hx, fun z => ?_⟩
    exact of_decide_eq_true z e
  omega
theorem mem_ex {l : PK} (o : OkZ l) {t : Int × Int} : t ∈ exP l ↔ t ∈ l.map (·.1) := by
  unfold exP
  rw [List.mem_flatMap]
  constructor
  · rintro ⟨x, hx, h⟩
    rw [(List.mem_replicate.mp h).2]
    exact List.mem_map.mpr ⟨x, hx, rfl⟩
  · intro h
    obtain ⟨x, hx, rfl⟩ := List.mem_map.mp h
    have := o.ps x hx
    exact ⟨x, hx, List.mem_replicate.mpr ⟨by omega, rfl⟩⟩
theorem cu_ex {l : PK} (o : OkZ l) {x y : Int} : Cu (exP l) x y ↔ Rc (bothT (l.map (·.1))) x y := by
  have e : ∀ t, t ∈ bw (exP l) ↔ t ∈ bothT (l.map (·.1)) := fun t => by
    unfold bothT
    constructor
    · intro h
      rcases mem_bw.mp h with z | z
      · exact List.mem_append_left _ ((mem_ex o).mp z)
      · exact List.mem_append_right _ (List.mem_map.mpr ⟨(t.2, t.1), (mem_ex o).mp z, rfl⟩)
    · intro h
      rcases List.mem_append.mp h with z | z
      · exact mem_bw.mpr (.inl ((mem_ex o).mpr z))
      · obtain ⟨s, hs, rfl⟩ := List.mem_map.mp z
        exact mem_bw.mpr (.inr ((mem_ex o).mpr hs))
  exact ⟨fun h => Rc.mono (fun t ht => (e t).mp ht) h, fun h => Rc.mono (ways := bothT (l.map (·.1))) (fun t ht => (e t).mpr ht) h⟩
/-! ties turned about -/
theorem wh_turns {a b : Int} : ∀ (m : Nat) (p : List (Int × Int)), Wh (List.replicate m (b, a) ++ p) = Wh (List.replicate m (a, b) ++ p)
  | 0, _ => rfl
  | m + 1, p => by
    rw [List.replicate_succ, List.replicate_succ, List.cons_append, List.cons_append, wh_turn, wh_perm (List.perm_middle (l₁ := List.replicate m (b, a)) (l₂ := p) (a := (a, b))).symm, wh_turns m, wh_perm List.perm_middle]
theorem wh_nr {t : Int × Int} {m : Nat} {p : List (Int × Int)} : Wh (List.replicate m (nrZ t) ++ p) = Wh (List.replicate m t ++ p) := by
  obtain ⟨a, b⟩ := t
  by_cases h : a ≤ b
  · have : nrZ (a, b) = (a, b) := by unfold nrZ; rw [Int.min_eq_left h, Int.max_eq_right h]
    rw [this]
  · have : nrZ (a, b) = (b, a) := by unfold nrZ; rw [Int.min_eq_right (by omega), Int.max_eq_left (by omega)]
    rw [this]
    exact wh_turns m p
/-! places made one -/
theorem mo_fold (a b : Int) : ∀ (l acc : PK), (∀ x ∈ l, 0 < x.2) → OkZ acc → Wh (exP (l.foldl (fun acc x => addZ acc (nrZ (rnZ a b x.1.1, rnZ a b x.1.2)) x.2) acc)) = Wh (nmq (rn a b) (exP l) ++ exP acc) ∧ OkZ (l.foldl (fun acc x => addZ acc (nrZ (rnZ a b x.1.1, rnZ a b x.1.2)) x.2) acc) ∧
    (l.foldl (fun acc x => addZ acc (nrZ (rnZ a b x.1.1, rnZ a b x.1.2)) x.2) acc).length ≤ acc.length + l.length ∧ ∀ k ∈ (l.foldl (fun acc x => addZ acc (nrZ (rnZ a b x.1.1, rnZ a b x.1.2)) x.2) acc).map (·.1), k ∈ acc.map (·.1) ∨ ∃ x ∈ l, k = nrZ (rn a b x.1.1, rn a b x.1.2)
  | [], acc, _, o => ⟨rfl, o, Nat.le_refl _, fun k hk => .inl hk⟩
  | x :: l, acc, hp, o => by
    obtain ⟨p1, o1⟩ := ex_add (k := nrZ (rnZ a b x.1.1, rnZ a b x.1.2)) o (hp x List.mem_cons_self)
    obtain ⟨h1, h2, h3, h4⟩ := mo_fold a b l _ (fun y hy => hp y (List.mem_cons_of_mem _ hy)) o1
    refine ⟨?_, h2, ?_, fun k hk => ?_⟩
    · show Wh (exP (l.foldl _ (addZ acc _ x.2))) = _
      rw [h1, exP_cons, nmq_rep, wh_perm (p1.append_left (nmq (rn a b) (exP l)))]
      have q : ∀ (u v s : List (Int × Int)), (u ++ (v ++ s)).Perm (v ++ (u ++ s)) := fun u v s => by
        rw [← List.append_assoc, ← List.append_assoc]
        exact List.perm_append_comm.append_right _
      rw [wh_perm (q _ _ _), wh_nr, List.append_assoc]
      rfl
    · have := addZ_len acc (nrZ (rnZ a b x.1.1, rnZ a b x.1.2)) x.2
      have h3 : (l.foldl (fun acc x => addZ acc (nrZ (rnZ a b x.1.1, rnZ a b x.1.2)) x.2) (addZ acc (nrZ (rnZ a b x.1.1, rnZ a b x.1.2)) x.2)).length ≤ _ := h3
      show (l.foldl (fun acc x => addZ acc (nrZ (rnZ a b x.1.1, rnZ a b x.1.2)) x.2) (addZ acc (nrZ (rnZ a b x.1.1, rnZ a b x.1.2)) x.2)).length ≤ acc.length + (l.length + 1)
      omega
    · rcases h4 k hk with z | ⟨y, hy, e⟩
      · obtain ⟨y, hy, rfl⟩ := List.mem_map.mp z
        rcases keys_add hy with e | e
        · exact .inr ⟨x, List.mem_cons_self, e⟩
        · exact .inl e
      · exact .inr ⟨y, List.mem_cons_of_mem _ hy, e⟩
theorem mo_ok {l : PK} {a b : Int} (o : OkZ l) : Wh (exP (moZ l a b)) = Wh (nmq (rn a b) (exP l)) ∧ OkZ (moZ l a b) ∧ (moZ l a b).length ≤ l.length ∧ ∀ k ∈ (moZ l a b).map (·.1), ∃ x ∈ l, k = nrZ (rn a b x.1.1, rn a b x.1.2) := by
  obtain ⟨h1, h2, h3, h4⟩ := mo_fold a b l [] o.ps ⟨List.nodup_nil, fun x hx => by cases hx⟩
  refine ⟨?_, h2, ?_, fun k hk => ?_⟩
  · show Wh (exP (l.foldl _ [])) = _
    rw [h1]
    show Wh (nmq (rn a b) (exP l) ++ []) = _
    rw [List.append_nil]
  · have h3 : (moZ l a b).length ≤ 0 + l.length := h3
    omega
  · rcases h4 k hk with z | z
    · cases z
    · exact z
/-! the keys: two places each, the lesser first -/
def InZ (l : PK) : Prop := ∀ x ∈ l, 0 ≤ x.1.1 ∧ x.1.1 < x.1.2 ∧ x.1.2 < 20
theorem nr_in {a b : Int} (ha : 0 ≤ a ∧ a < 20) (hb : 0 ≤ b ∧ b < 20) (hn : a ≠ b) : 0 ≤ (nrZ (a, b)).1 ∧ (nrZ (a, b)).1 < (nrZ (a, b)).2 ∧ (nrZ (a, b)).2 < 20 := by
  show 0 ≤ min a b ∧ min a b < max a b ∧ max a b < 20
  omega
theorem mo_in {l : PK} {k : Int × Int} (o : OkZ l) (hi : InZ l) (hk : k ∈ l.map (·.1)) : InZ (moZ (dropZ l k) k.1 k.2) := fun y hy => by
  obtain ⟨_, _, _, h4⟩ := mo_ok (l := dropZ l k) (a := k.1) (b := k.2) (drop_ok o)
  obtain ⟨x, hx, e⟩ := h4 y.1 (List.mem_map.mpr ⟨y, hy, rfl⟩)
  obtain ⟨h1, h2⟩ := drop_ne hx
  obtain ⟨z, hz, ek⟩ := List.mem_map.mp hk
  have i1 := hi x h1
  have i2 := hi z hz
  rw [ek] at i2
  rw [e]
  have r : ∀ u : Int, 0 ≤ u ∧ u < 20 → 0 ≤ rn k.1 k.2 u ∧ rn k.1 k.2 u < 20 := fun u hu => by
    by_cases c : u = k.2
    · rw [c, rn_b]; omega
    · rw [rn_ne c]; exact hu
  refine nr_in (r _ ⟨i1.1, by omega⟩) (r _ ⟨by omega, i1.2.2⟩) fun z => ?_
  rcases rn_eq.mp z with z | ⟨z1 | z1, z2 | z2⟩
  · omega
  · omega
  · exact h2 (Prod.ext z1 z2)
  · omega
  · omega
theorem in_pz {l : PK} (h : InZ l) (hl : l.length ≤ 1000) : inPZ l = true := by
  unfold inPZ
  rw [Bool.and_eq_true]
  refine ⟨decide_eq_true hl, List.all_eq_true.mpr fun x hx => decide_eq_true ?_⟩
  have := h x hx
  omega
theorem ex_len {l : PK} (o : OkZ l) {k : Int × Int} {m : Int} (h : lkZ l k = some m) : 0 < m ∧ m.toNat + (exP (dropZ l k)).length = (exP l).length := by
  have q := (ex_drop o h).length_eq
  rw [List.length_append, List.length_replicate] at q
  exact ⟨o.ps _ (lkZ_mem h), q.symm⟩
theorem mo_exlen {l : PK} {a b : Int} (o : OkZ l) : (exP (moZ l a b)).length = (exP l).length := by
  have : ∀ (l acc : PK), (∀ x ∈ l, 0 < x.2) → OkZ acc → (exP (l.foldl (fun acc x => addZ acc (nrZ (rnZ a b x.1.1, rnZ a b x.1.2)) x.2) acc)).length = (exP l).length + (exP acc).length := by
    intro l
    induction l with
    | nil => exact fun acc _ _ => (Nat.zero_add _).symm
    | cons x l ih =>
      intro acc hp o
      obtain ⟨p1, o1⟩ := ex_add (k := nrZ (rnZ a b x.1.1, rnZ a b x.1.2)) o (hp x List.mem_cons_self)
      have q := p1.length_eq
      rw [List.length_append, List.length_replicate] at q
      rw [List.foldl_cons, ih _ (fun y hy => hp y (List.mem_cons_of_mem _ hy)) o1, q, exP_cons, List.length_append, List.length_replicate]
      omega
  exact this l [] o.ps ⟨List.nodup_nil, fun x hx => by cases hx⟩
/-- what is counted by taking out and joining -/
theorem whTZ_ok {tc : List (Int × Int) → Int → R (List Int)} (htc : ∀ ways p, okW 20 ways → inP 20 p → ∃ c, tc ways p = .ok c ∧ ∀ q, q ∈ c ↔ Rc ways p q) : ∀ (n : Nat) (l : PK), l.length < n → OkZ l → InZ l → l.length ≤ 1000 → (exP l).length ≤ 60 → whTZ tc n l = .ok (Wh (exP l) : Int)
  | 0, l, h, _, _, _, _ => absurd h (Nat.not_lt_zero _)
  | n + 1, l, hn, o, hi, hl, he => by
    refine whG_of ?_
    by_cases c : l = []
    · subst c
      refine .inl ⟨rfl, ?_⟩
      show ((Wh [] : Nat) : Int) = 1
      rw [wh_nil]
      rfl
    refine .inr ⟨fun z => c (List.eq_nil_of_length_eq_zero z), in_pz hi hl, ?_⟩
    obtain ⟨k, hk⟩ := minZ_some c
    have hkm := minZ_mem hk
    obtain ⟨m, hm⟩ : ∃ m, lkZ l k = some m := by
      cases z : lkZ l k with
      | none => exact absurd hkm (lkZ_none.mp z)
      | some m => exact ⟨m, rfl⟩
    obtain ⟨m0, m1⟩ := ex_len o hm
    have od := drop_ok (k := k) o
    have dl := drop_len hkm
    obtain ⟨x0, hx0, ek⟩ := List.mem_map.mp hkm
    have ik := hi x0 hx0
    rw [ek] at ik
    have hid : InZ (dropZ l k) := fun x hx => hi x (drop_ne hx).1
    obtain ⟨w1, w2, w3, _⟩ := mo_ok (l := dropZ l k) (a := k.1) (b := k.2) od
    have w4 := mo_exlen (l := dropZ l k) (a := k.1) (b := k.2) od
    have ihm := whTZ_ok htc n (moZ (dropZ l k) k.1 k.2) (by omega) w2 (mo_in o hi hkm) (by omega) (by omega)
    have ihd := whTZ_ok htc n (dropZ l k) (by omega) od hid (by omega) (by omega)
    obtain ⟨cl, hc1, hc2⟩ := htc (bothT ((dropZ l k).map (·.1))) k.1 (fun t ht => by
      unfold bothT at ht
      rcases List.mem_append.mp ht with z | z
      · obtain ⟨y, hy, rfl⟩ := List.mem_map.mp z
        have := hid y hy
        exact ⟨⟨this.1, by omega⟩, ⟨by omega, this.2.2⟩⟩
      · obtain ⟨s, hs, rfl⟩ := List.mem_map.mp z
        obtain ⟨y, hy, rfl⟩ := List.mem_map.mp hs
        have := hid y hy
        exact ⟨⟨by omega, this.2.2⟩, ⟨this.1, by omega⟩⟩) ⟨ik.1, by omega⟩
    have hcome : comeT tc (dropZ l k) k = .ok (decide (k.2 ∈ cl)) := by
      unfold comeT
      rw [hc1]
      rfl
    have hcu : k.2 ∈ cl ↔ Cu (exP (dropZ l k)) k.1 k.2 := (hc2 k.2).trans (cu_ex od).symm
    have hw : Wh (exP l) = Wh (List.replicate m.toNat (k.1, k.2) ++ exP (dropZ l k)) := wh_perm (ex_drop o hm)
    have pw : ((2 ^ m.toNat : Nat) : Int) = (2 : Int) ^ m.toNat := by rw [Int.natCast_pow]; rfl
    refine ⟨k, m, hk, hm, by omega, by omega, ?_⟩
    by_cases d : k.2 ∈ cl
    · rw [decide_eq_true d] at hcome
      have e := wh_many (hcu.mp d) m.toNat
      refine .inl ⟨hcome, _, _, ihm, ihd, ?_⟩
      rw [hw, w1, ← pw]
      generalize Wh (List.replicate m.toNat (k.1, k.2) ++ exP (dropZ l k)) = A at e ⊢
      generalize Wh (nmq (rn k.1 k.2) (exP (dropZ l k))) = B at e ⊢
      generalize Wh (exP (dropZ l k)) = C at e ⊢
      generalize (2 : Nat) ^ m.toNat = T at e ⊢
      have e : (A : Int) + (B : Int) = (T : Int) * (B : Int) + (C : Int) := by
        have := congrArg (fun z : Nat => (z : Int)) e
        simpa using this
      rw [Int.sub_mul, Int.one_mul]
      omega
    · rw [decide_eq_false d] at hcome
      obtain ⟨m', hm'⟩ : ∃ m', m.toNat = m' + 1 := ⟨m.toNat - 1, by omega⟩
      have e := wh_many_br (fun z => d (hcu.mpr z)) m'
      rw [← hm', ← hw] at e
      refine .inr ⟨hcome, ?_⟩
      by_cases t2 : (2 : Int) ^ m.toNat = 2
      · refine .inl ⟨t2, ?_⟩
        rw [← pw] at t2
        have t2 : (2 : Nat) ^ m.toNat = 2 := by omega
        rw [t2] at e
        omega
      · refine .inr ⟨t2, _, ihm, ?_⟩
        rw [w1, ← pw]
        generalize Wh (nmq (rn k.1 k.2) (exP (dropZ l k))) = B at e ⊢
        generalize Wh (exP l) = A at e ⊢
        generalize (2 : Nat) ^ m.toNat = T at e ⊢
        have e : (A : Int) + 2 * (B : Int) = (T : Int) * (B : Int) := by
          have := congrArg (fun z : Nat => (z : Int)) e
          simpa using this
        rw [Int.sub_mul]
        omega
/-! what is gathered -/
theorem ga_fold {ts : List (Int × Int)} (hb : ∀ t ∈ ts, (0 ≤ t.1 ∧ t.1 < 20) ∧ (0 ≤ t.2 ∧ t.2 < 20)) : ∃ L : Nat, (gaZ ts).2 = (L : Int) ∧ OkZ (gaZ ts).1 ∧ InZ (gaZ ts).1 ∧ (gaZ ts).1.length ≤ ts.length ∧ (exP (gaZ ts).1).length + L = ts.length ∧ Wh ts = 2 ^ L * Wh (exP (gaZ ts).1) := by
  have key : ∀ (ts : List (Int × Int)) (acc : PK) (c : Nat), (∀ t ∈ ts, (0 ≤ t.1 ∧ t.1 < 20) ∧ (0 ≤ t.2 ∧ t.2 < 20)) → OkZ acc → InZ acc →
      ∃ (acc' : PK) (L : Nat), ts.foldl (fun (acc : PK × Int) t => if (nrZ t).1 = (nrZ t).2 then (acc.1, acc.2 + 1) else (addZ acc.1 (nrZ t) 1, acc.2)) (acc, (c : Int)) = (acc', ((c + L : Nat) : Int)) ∧ OkZ acc' ∧ InZ acc' ∧ acc'.length ≤ acc.length + ts.length ∧ (exP acc').length + L = (exP acc).length + ts.length ∧ Wh (ts ++ exP acc) = 2 ^ L * Wh (exP acc') := by
    intro ts
    induction ts with
    | nil => exact fun acc c _ o i => ⟨acc, 0, rfl, o, i, Nat.le_refl _, rfl, by rw [Nat.pow_zero, Nat.one_mul]; rfl⟩
    | cons t ts ih =>
      intro acc c hb o i
      have hb' : ∀ t ∈ ts, (0 ≤ t.1 ∧ t.1 < 20) ∧ (0 ≤ t.2 ∧ t.2 < 20) := fun s hs => hb s (List.mem_cons_of_mem _ hs)
      obtain ⟨b1, b2⟩ := hb t List.mem_cons_self
      obtain ⟨x, y⟩ := t
      rw [List.foldl_cons]
      by_cases e : (nrZ (x, y)).1 = (nrZ (x, y)).2
      · have exy : x = y := by
          have e : min x y = max x y := e
          omega
        rw [if_pos e]
        obtain ⟨acc', L, h1, h2, h3, h4, h5, h6⟩ := ih acc (c + 1) hb' o i
        refine ⟨acc', L + 1, ?_, h2, h3, by rw [List.length_cons]; omega, by rw [List.length_cons]; omega, ?_⟩
        · have : ((c : Int) + 1) = ((c + 1 : Nat) : Int) := by omega
          show ts.foldl _ (acc, (c : Int) + 1) = _
          rw [this, h1, Nat.add_assoc, Nat.add_comm 1 L]
        · subst exy
          rw [List.cons_append, wh_loop, h6, Nat.pow_succ, Nat.mul_comm (2 ^ L) 2, Nat.mul_assoc]
      · have hn : x ≠ y := fun z => e (by subst z; show min x x = max x x; omega)
        rw [if_neg e]
        obtain ⟨p1, o1⟩ := ex_add (k := nrZ (x, y)) (m := 1) o (by decide)
        have i1 : InZ (addZ acc (nrZ (x, y)) 1) := fun z hz => by
          rcases keys_add hz with e | e
          · rw [e]
            exact nr_in b1 b2 hn
          · obtain ⟨w, hw, e⟩ := List.mem_map.mp e
            rw [← e]
            exact i w hw
        obtain ⟨acc', L, h1, h2, h3, h4, h5, h6⟩ := ih _ c hb' o1 i1
        have q := p1.length_eq
        rw [List.length_append, List.length_replicate] at q
        have al := addZ_len acc (nrZ (x, y)) 1
        have q : (exP (addZ acc (nrZ (x, y)) 1)).length = 1 + (exP acc).length := q
        refine ⟨acc', L, h1, h2, h3, by rw [List.length_cons]; omega, by rw [List.length_cons]; omega, ?_⟩
        rw [← h6, wh_perm (p1.append_left ts)]
        have p2 : (ts ++ (List.replicate (1 : Int).toNat (nrZ (x, y)) ++ exP acc)).Perm (List.replicate (1 : Int).toNat (nrZ (x, y)) ++ (ts ++ exP acc)) := by
          rw [← List.append_assoc, ← List.append_assoc]
          exact List.perm_append_comm.append_right _
        rw [wh_perm p2, wh_nr]
        rfl
  obtain ⟨acc', L, h1, h2, h3, h4, h5, h6⟩ := key ts [] 0 hb ⟨List.nodup_nil, fun x hx => by cases hx⟩ fun x hx => by cases hx
  have e : gaZ ts = (acc', (L : Int)) := by
    rw [Nat.zero_add] at h1
    exact h1
  rw [e]
  refine ⟨L, rfl, h2, h3, ?_, ?_, ?_⟩
  · have h4 : acc'.length ≤ 0 + ts.length := h4
    show acc'.length ≤ ts.length
    omega
  · have h5 : (exP acc').length + L = 0 + ts.length := h5
    show (exP acc').length + L = ts.length
    omega
  · rw [← h6]
    show Wh ts = Wh (ts ++ [])
    rw [List.append_nil]
/-- what how_many_whirls tells -/
theorem how_t {m : Int} {ts : List (Int × Int)} (hl : ts.length ≤ 12) (hb : ∀ t ∈ ts, (0 ≤ t.1 ∧ t.1 < 20) ∧ (0 ≤ t.2 ∧ t.2 < 20)) : t_how_many_whirls ⟨m, ts⟩ = .ok (Wh ts : Int) := by
  obtain ⟨L, h1, h2, h3, h4, h5, h6⟩ := ga_fold hb
  have e1 : decide ((12 : Int) < (ts.length : Int)) = false := decide_eq_false (by omega)
  have e2 : whTZ t_come_to 14 (gaZ ts).1 = .ok (Wh (exP (gaZ ts).1) : Int) := whTZ_ok (fun ways p hw hp => come_t hw (by decide) hp) 14 _ (by omega) h2 h3 (by omega) (by omega)
  have e3 : howT t_come_to 14 ⟨m, ts⟩ = .ok (Wh ts : Int) := by
    unfold howT
    rw [if_pos ⟨by show ts.length ≤ 1000; omega, by show 0 ≤ (gaZ ts).2; omega, by show (gaZ ts).2 ≤ 60; omega⟩]
    show (match whTZ t_come_to 14 (gaZ ts).1 with
      | .ok r => R.ok (2 ^ (gaZ ts).2.toNat * r)
      | _ => .no) = _
    rw [e2]
    show R.ok ((2 : Int) ^ (gaZ ts).2.toNat * (Wh (exP (gaZ ts).1) : Int)) = _
    have pw : ((2 ^ L : Nat) : Int) = (2 : Int) ^ L := by rw [Int.natCast_pow]; rfl
    rw [h1, Int.toNat_natCast, h6, ← pw, Int.natCast_mul]
  unfold t_how_many_whirls
  simp only [e1, cond_false, e3, ob_ok, out_rt]
theorem how_no {m : Int} {ts : List (Int × Int)} (hl : 12 < ts.length) : t_how_many_whirls ⟨m, ts⟩ = .er 4 [] := by
  have e1 : decide ((12 : Int) < (ts.length : Int)) = true := decide_eq_true (by omega)
  unfold t_how_many_whirls
  simp only [e1, cond_true]
  rfl
end BW.Wk
namespace BW.Wk
open PySem PySem.Spec PyProof.Rows L2
theorem alone4 : t__law_alone 4 = .ok true := by
  unfold t__law_alone
  simp [isoTb, List.lookup]
theorem refusedW {m : Int} {ts : List (Int × Int)} (h : 12 < ts.length) : t__law_refused ⟨m, ts⟩ = .ok true := by
  unfold t__law_refused tb1__law_refused th1__law_refused
  simp [how_no h, alone4, isoTb, List.lookup]
theorem bits_snoc : ∀ (i c : Nat), bitsB (i + 1) c = bitsB i c ++ [decide (c / 2 ^ i % 2 = 1)]
  | 0, c => by
    show [decide (c % 2 = 1)] = [decide (c / 2 ^ 0 % 2 = 1)]
    rw [Nat.pow_zero, Nat.div_one]
  | i + 1, c => by
    show decide (c % 2 = 1) :: bitsB (i + 1) (c / 2) = (decide (c % 2 = 1) :: bitsB i (c / 2)) ++ _
    rw [bits_snoc i (c / 2), Nat.div_div_eq_div_mul, Nat.pow_succ, Nat.mul_comm 2 (2 ^ i)]
    rfl
theorem bits_len : ∀ (n c : Nat), (bitsB n c).length = n
  | 0, _ => rfl
  | n + 1, c => congrArg (· + 1) (bits_len n (c / 2))
theorem turns_bits (c n : Nat) (hn : n ≤ 1000) : t__law_turns (c : Int) (n : Int) = .ok (bitsB n c) := by
  have e1 : rangeT (n : Int) = .ok (rangeI 0 n) := rangeT_nat (by omega)
  have k := forT_rg (Λ := Empty) (ρ := List Bool) (b := tb1__law_turns) (n := n) (fun i => (((c / 2 ^ i : Nat) : Int), bitsB i c)) fun i hi => .inl (by
    have e : appT (bitsB i c) (decide (c / 2 ^ i % 2 = 1)) = .ok (bitsB i c ++ [decide (c / 2 ^ i % 2 = 1)]) := appT_ok (by rw [bits_len]; omega)
    have e2 : decide (((c / 2 ^ i : Nat) : Int) % 2 = 1) = decide (c / 2 ^ i % 2 = 1) := decide_eq_decide.mpr (by omega)
    have e3 : ((c / 2 ^ i : Nat) : Int) / 2 = ((c / 2 ^ (i + 1) : Nat) : Int) := by
      rw [Nat.pow_succ, ← Nat.div_div_eq_div_mul]
      omega
    unfold tb1__law_turns
    simp only [e2, e, ob_ok, e3, bits_snoc])
  have k : (forT tb1__law_turns (rangeI 0 n) ((c : Int), []) : TR Empty (Int × List Bool) (List Bool)) = .nx (((c / 2 ^ n : Nat) : Int), bitsB n c) := by
    have z : (((c / 2 ^ 0 : Nat) : Int), bitsB 0 c) = ((c : Int), ([] : List Bool)) := by rw [Nat.pow_zero, Nat.div_one]; rfl
    rw [← z]
    exact k
  unfold t__law_turns
  simp only [ob_ok, Int.natAbs_natCast, e1, k, tsq_nx, out_rt]
theorem wc_le : ∀ (p w : List (Int × Int)), Wc p w ≤ 2 ^ p.length
  | [], w => by
    show inW _ ≤ 1
    by_cases h : whirlQ w
    · exact Nat.le_of_eq (inW_t h)
    · rw [inW_f h]; exact Nat.zero_le _
  | t :: p, w => by
    have a := wc_le p (t :: w)
    have b := wc_le p ((t.2, t.1) :: w)
    show Wc p (t :: w) + Wc p ((t.2, t.1) :: w) ≤ _
    rw [List.length_cons, Nat.pow_succ]
    omega
theorem is_ok {m : Int} {ts : List (Int × Int)} {x : Int} (hl : ts.length ≤ 12) (hb : ∀ t ∈ ts, (0 ≤ t.1 ∧ t.1 < 20) ∧ (0 ≤ t.2 ∧ t.2 < 20)) (hx : x = (Wh ts : Int)) : t__law_is ⟨m, ts⟩ x = .ok true := by
  subst hx
  unfold t__law_is t__law_whole
  simp only [how_t hl hb, ob_ok, out_rt, r_bind_ok, Bool.not_false, Bool.and_true, cond_true, decide_true]
theorem due_t {n : Nat} {ts : List (Int × Int)} (w : Wb (n : Int) ts) (hn : n ≤ 20) (hl : ts.length ≤ 6) : (forT (tb1_law (n : Int) ts) (rangeI 0 (2 ^ ts.length)) 0 : TR Empty Int Bool) = .nx (Wh ts : Int) := by
  have k := forT_rg (Λ := Empty) (ρ := Bool) (b := tb1_law (n : Int) ts) (n := 2 ^ ts.length) (fun i => ((sN i fun c => inW (whirlQ (dw ts (bitsB ts.length c)))) : Int)) fun i hi => .inl (by
    have e1 := turns_bits i ts.length (by omega)
    obtain ⟨b, e2, hb⟩ := lwhirl_t (n := n) (ds := bitsB ts.length i) (bits_len _ _) (by omega) w.ins (by omega)
    have e3 : cond b (1 : Int) 0 = (inW (whirlQ (dw ts (bitsB ts.length i))) : Int) := by
      cases b with
      | true => rw [inW_t (hb.mp rfl)]; rfl
      | false => rw [inW_f fun z => Bool.noConfusion (hb.mpr z)]; rfl
    unfold tb1_law
    simp only [e1, r_bind_ok, e2, e3, ob_ok]
    congr 1)
  have z := sum_all ts []
  have z2 : (sN (2 ^ ts.length) fun c => inW (whirlQ (dw ts (bitsB ts.length c)))) = Wh ts := by
    rw [← show Wc ts [] = Wh ts from rfl, ← z]
    exact sN_congr (fun c => by rw [List.append_nil]) _
  rw [z2] at k
  exact k
theorem shift_t {m : Int} {ts : List (Int × Int)} (h : ∀ t ∈ ts, inM m t) : Wh (ts ++ ts.map fun t => (t.1 + m, t.2 + m)) = Wh ts * Wh ts := by
  have e : (ts.map fun t => (t.1 + m, t.2 + m)) = nmq (fun x => x + m) ts := rfl
  rw [e, wh_apart, wh_ren]
  · exact fun x y _ _ z => by have z : x + m = y + m := z; omega
  · rintro x ⟨t, ht, ex⟩ ⟨s, hs, ey⟩
    obtain ⟨u, hu, rfl⟩ := mem_nmq.mp hs
    have ht := h t ht
    have hu := h u hu
    obtain ⟨a1, a2, a3, a4⟩ := ht
    obtain ⟨b1, b2, b3, b4⟩ := hu
    have ey : x = u.1 + m ∨ x = u.2 + m := ey
    omega
theorem t_law_true (ns : List Int) (hn : ns.length ≤ 63) : t_law ns = .ok true := by
  unfold t_law
  have c0 : t__law_cell ns 0 = .ok (cellI ns 0) := cell_t (by decide)
  obtain ⟨m, ts, h0, w, hm5, hl6⟩ := drawnB_t ns (most := 5) (bound := 6) (by decide) (by decide) (by decide) (by decide)
  obtain ⟨m2, ts2, ds2, l0, lw, lm, ll, ldl, lq⟩ := lears_t ns hn (at' := 2) (most := 5) (bound := 6) (by decide) (by decide) (by decide) (by decide) (by decide) (by decide)
  simp only [c0, r_bind_ok, h0, ob_ok]
  have key : ∀ (m : Int) (ts : List (Int × Int)), Wb m ts → m ≤ 5 → (ts.length : Int) ≤ 6 →
      TR.out (Γ := Unit) (TR.sq (TR.ob ((shlT (1 : Int) (ts.length : Int)).bind fun v6 => rangeT v6) fun l36 => forT (tb1_law m ts) l36 (0 : Int)) fun g11 =>
  TR.ob (((mkW m ts).bind fun v12 => t__law_is v12 g11).map (!·)) fun k34 => cond k34
  (TR.up (.rt false))
  (TR.ob ((fLcT (fun _ => .ok true) (ty1_law m) ts).bind fun v15 => catT ts v15) fun x16 =>
  TR.ob (((mkW ((2 : Int) * m) x16).bind fun v17 => (mulT g11 g11).bind fun v18 => t__law_is v17 v18).map (!·)) fun k33 => cond k33
  (TR.up (.rt false))
  (TR.ob (modT ns.sum m) fun x19 =>
  TR.ob (rep1 (x19, x19) ((12 : Int) - (ts.length : Int))) fun x20 =>
  TR.ob ((((catT x20 ts).bind fun v21 => mkW m v21).bind fun v22 => (shlT g11 (x20.length : Int)).bind fun v23 => t__law_is v22 v23).map (!·)) fun k32 => cond k32
  (TR.up (.rt false))
  (TR.ob (rep1 ((0 : Int), (0 : Int)) ((1 : Int) + (ns.sum % (28 : Int)))) fun x24 =>
  TR.ob (((((catT ts x20).bind fun v25 => catT v25 ([(x19, (0 : Int))] : List (Int × Int))).bind fun v26 => mkW m v26).bind fun v27 => t__law_refused v27).map (!·)) fun k31 => cond k31
  (TR.up (.rt false))
  (TR.ob ((((catT x20 ts).bind fun v28 => catT v28 x24).bind fun v29 => mkW m v29).bind fun v30 => t__law_refused v30) .rt))))) .no = .ok true := by
    intro m ts w hm hl
    have hm0 := w.lo
    obtain ⟨n, rfl⟩ := Int.eq_ofNat_of_zero_le (show 0 ≤ m by omega)
    have hl' : ts.length ≤ 6 := by omega
    have hin := w.ins
    have hb : ∀ t ∈ ts, (0 ≤ t.1 ∧ t.1 < 20) ∧ (0 ≤ t.2 ∧ t.2 < 20) := fun t ht => by
      obtain ⟨a1, a2, a3, a4⟩ := hin t ht
      omega
    have pw : ∀ k : Nat, ((2 ^ k : Nat) : Int) = (2 : Int) ^ k := fun k => by rw [Int.natCast_pow]; rfl
    have hpl : 2 ^ ts.length ≤ 64 := Nat.pow_le_pow_right (n := 2) (by decide) hl'
    have e1 : shlT 1 (ts.length : Int) = .ok ((2 ^ ts.length : Nat) : Int) := by
      unfold shlT
      rw [if_pos ⟨by omega, by omega, by decide⟩, Int.one_mul, Int.toNat_natCast, pw]
    have e2 : rangeT ((2 ^ ts.length : Nat) : Int) = .ok (rangeI 0 (2 ^ ts.length)) := rangeT_nat (by omega)
    have e3 := due_t w (by omega) hl'
    have e4 : t__law_is ⟨(n : Int), ts⟩ (Wh ts : Int) = .ok true := is_ok (by omega) hb rfl
    have e5 : fLcT (fun _ => .ok true) (ty1_law (n : Int)) ts = .ok (ts.map fun t => (t.1 + (n : Int), t.2 + (n : Int))) := fLcT_map _ (by omega) fun _ _ => rfl
    have e6 : catT ts (ts.map fun t => (t.1 + (n : Int), t.2 + (n : Int))) = .ok (ts ++ ts.map fun t => (t.1 + (n : Int), t.2 + (n : Int))) := catT_ok (by rw [List.length_map]; omega)
    have i2 : ∀ t ∈ ts ++ ts.map fun t => (t.1 + (n : Int), t.2 + (n : Int)), 0 ≤ t.1 ∧ t.1 < 2 * (n : Int) ∧ 0 ≤ t.2 ∧ t.2 < 2 * (n : Int) := fun t ht => by
      rcases List.mem_append.mp ht with z | z
      · obtain ⟨a1, a2, a3, a4⟩ := hin t z
        omega
      · obtain ⟨s, hs, rfl⟩ := List.mem_map.mp z
        obtain ⟨a1, a2, a3, a4⟩ := hin s hs
        show 0 ≤ s.1 + (n : Int) ∧ s.1 + (n : Int) < 2 * (n : Int) ∧ 0 ≤ s.2 + (n : Int) ∧ s.2 + (n : Int) < 2 * (n : Int)
        omega
    have e7 : mkW (2 * (n : Int)) (ts ++ ts.map fun t => (t.1 + (n : Int), t.2 + (n : Int))) = .ok ⟨2 * (n : Int), ts ++ ts.map fun t => (t.1 + (n : Int), t.2 + (n : Int))⟩ := mkW_ok (by omega) (by omega) (by rw [List.length_append, List.length_map]; omega) i2
    have hw : Wh ts ≤ 64 := Nat.le_trans (wc_le ts []) hpl
    have e8 : mulT (Wh ts : Int) (Wh ts : Int) = .ok ((Wh ts : Int) * (Wh ts : Int)) := mulT_l (by unfold smallI; exact decide_eq_true (by omega))
    have e9 : t__law_is ⟨2 * (n : Int), ts ++ ts.map fun t => (t.1 + (n : Int), t.2 + (n : Int))⟩ ((Wh ts : Int) * (Wh ts : Int)) = .ok true := is_ok (by rw [List.length_append, List.length_map]; omega) (fun t ht => by have := i2 t ht; omega) (by rw [shift_t hin, Int.natCast_mul])
    have e10 : modT ns.sum (n : Int) = .ok (ns.sum % (n : Int)) := modT_ok (by omega)
    have x0 := Int.emod_nonneg ns.sum (show (n : Int) ≠ 0 by omega)
    have x1 := Int.emod_lt_of_pos ns.sum (show 0 < (n : Int) by omega)
    generalize ns.sum % (n : Int) = x at x0 x1 e10
    have e11 : rep1 (x, x) ((12 : Int) - (ts.length : Int)) = .ok (List.replicate (12 - ts.length) (x, x)) := by
      rw [show (12 : Int) - (ts.length : Int) = ((12 - ts.length : Nat) : Int) by omega]
      exact rep1_ok (by omega)
    have ir : ∀ k, ∀ t ∈ List.replicate k (x, x), 0 ≤ t.1 ∧ t.1 < (n : Int) ∧ 0 ≤ t.2 ∧ t.2 < (n : Int) := fun k t ht => by
      rw [(List.mem_replicate.mp ht).2]
      exact ⟨x0, x1, x0, x1⟩
    have it : ∀ t ∈ ts, 0 ≤ t.1 ∧ t.1 < (n : Int) ∧ 0 ≤ t.2 ∧ t.2 < (n : Int) := fun t ht => by
      obtain ⟨a1, a2, a3, a4⟩ := hin t ht
      omega
    have l12 : (List.replicate (12 - ts.length) (x, x) ++ ts).length = 12 := by rw [List.length_append, List.length_replicate]; omega
    have e12 : catT (List.replicate (12 - ts.length) (x, x)) ts = .ok (List.replicate (12 - ts.length) (x, x) ++ ts) := catT_ok (by rw [List.length_replicate]; omega)
    have i3 : ∀ t ∈ List.replicate (12 - ts.length) (x, x) ++ ts, 0 ≤ t.1 ∧ t.1 < (n : Int) ∧ 0 ≤ t.2 ∧ t.2 < (n : Int) := fun t ht => (List.mem_append.mp ht).elim (ir _ t) (it t)
    have e13 : mkW (n : Int) (List.replicate (12 - ts.length) (x, x) ++ ts) = .ok ⟨(n : Int), List.replicate (12 - ts.length) (x, x) ++ ts⟩ := mkW_ok (by omega) (by omega) (by omega) i3
    have e14 : shlT (Wh ts : Int) ((List.replicate (12 - ts.length) (x, x)).length : Int) = .ok ((Wh ts : Int) * 2 ^ (12 - ts.length)) := by
      unfold shlT
      rw [List.length_replicate, if_pos ⟨by omega, by omega, by omega⟩, Int.toNat_natCast]
    have e15 : t__law_is ⟨(n : Int), List.replicate (12 - ts.length) (x, x) ++ ts⟩ ((Wh ts : Int) * 2 ^ (12 - ts.length)) = .ok true := is_ok (by omega) (fun t ht => by have := i3 t ht; omega) (by rw [wh_loops, Int.natCast_mul, pw, Int.mul_comm])
    have y0 := Int.emod_nonneg ns.sum (show (28 : Int) ≠ 0 by decide)
    have y1 := Int.emod_lt_of_pos ns.sum (show (0 : Int) < 28 by decide)
    obtain ⟨y, hy⟩ := Int.eq_ofNat_of_zero_le (show 0 ≤ 1 + ns.sum % 28 by omega)
    have e16 : rep1 ((0 : Int), (0 : Int)) ((1 : Int) + ns.sum % 28) = .ok (List.replicate y (0, 0)) := by
      rw [hy]
      exact rep1_ok (by omega)
    have e17 : catT ts (List.replicate (12 - ts.length) (x, x)) = .ok (ts ++ List.replicate (12 - ts.length) (x, x)) := catT_ok (by rw [List.length_replicate]; omega)
    have e18 : catT (ts ++ List.replicate (12 - ts.length) (x, x)) [(x, (0 : Int))] = .ok (ts ++ List.replicate (12 - ts.length) (x, x) ++ [(x, 0)]) := catT_ok (by rw [List.length_append, List.length_replicate]; show _ + 1 ≤ _; omega)
    have l13 : (ts ++ List.replicate (12 - ts.length) (x, x) ++ [(x, (0 : Int))]).length = 13 := by rw [List.length_append, List.length_append, List.length_replicate]; show _ + 1 = _; omega
    have e19 : mkW (n : Int) (ts ++ List.replicate (12 - ts.length) (x, x) ++ [(x, 0)]) = .ok ⟨(n : Int), ts ++ List.replicate (12 - ts.length) (x, x) ++ [(x, 0)]⟩ := mkW_ok (by omega) (by omega) (by omega) fun t ht => by
      rcases List.mem_append.mp ht with z | z
      · exact (List.mem_append.mp z).elim (it t) (ir _ t)
      · rw [List.mem_singleton.mp z]
        exact ⟨x0, x1, by show (0 : Int) ≤ 0; omega, by show (0 : Int) < n; omega⟩
    have e20 := refusedW (m := (n : Int)) (ts := ts ++ List.replicate (12 - ts.length) (x, x) ++ [(x, 0)]) (by omega)
    have l14 : (List.replicate (12 - ts.length) (x, x) ++ ts ++ List.replicate y ((0 : Int), (0 : Int))).length = 12 + y := by rw [List.length_append, l12, List.length_replicate]
    have e21 : catT (List.replicate (12 - ts.length) (x, x) ++ ts) (List.replicate y ((0 : Int), (0 : Int))) = .ok (List.replicate (12 - ts.length) (x, x) ++ ts ++ List.replicate y (0, 0)) := catT_ok (by rw [l12, List.length_replicate]; omega)
    have e22 : mkW (n : Int) (List.replicate (12 - ts.length) (x, x) ++ ts ++ List.replicate y (0, 0)) = .ok ⟨(n : Int), List.replicate (12 - ts.length) (x, x) ++ ts ++ List.replicate y (0, 0)⟩ := mkW_ok (by omega) (by omega) (by omega) fun t ht => by
      rcases List.mem_append.mp ht with z | z
      · exact i3 t z
      · rw [(List.mem_replicate.mp z).2]
        exact ⟨by show (0 : Int) ≤ 0; omega, by show (0 : Int) < n; omega, by show (0 : Int) ≤ 0; omega, by show (0 : Int) < n; omega⟩
    have e23 := refusedW (m := (n : Int)) (ts := List.replicate (12 - ts.length) (x, x) ++ ts ++ List.replicate y (0, 0)) (by omega)
    simp only [e1, r_bind_ok, e2, ob_ok, e3, tsq_nx, w.mk', e4, map_ok_, Bool.not_true, cond_false, e5, e6, e7, e8, e9, e10, e11, e12, e13, e14, e15, e16, e17, e18, e19, e20, e21, e22, e23, out_rt]
  by_cases c : cellI ns 0 % 2 = 1
  · simp only [decide_eq_true c, cond_true, l0, ob_ok, tsq_nx]
    exact key m2 ts2 lw lm ll
  · simp only [decide_eq_false c, cond_false, tsq_nx]
    exact key m ts w hm5 hl6
theorem law_true (ns : List Int) (hn : ns.length ≤ 63) : m_law [.scr ns] = .ok (.bl true) := (h_law ns).get (t_law_true ns hn)
end BW.Wk
open PySem PySem.W PySem.Calls PyProof.Rows
theorem PySem.Challenge.cw_busyweb_k65_whirls_counted_holds : PySem.Challenge.rw_busyweb_k65_whirls_counted.Holds := by
  refine BW.Wk.hd_close ?hc
  case hc =>
    refine L2.walk_ofE (l := PySem.Challenge.rw_busyweb_k65_whirls_counted) (n := 63) (k := 21) (x := "_law_script") (CX := L2.CX0) rfl (by decide) (by kernel_rfl) ⟨rfl, by decide, by decide⟩ ?F (fun _ _ _ _ z => z)
    intro w mg fa h Y G hmg0
    obtain ⟨K, KX, c⟩ := Y
    have hmg : mg ("law" : PySem.Str) = some (.ref fa) := by
      have e : (HandSHeadRun.topDef BW.Wk.Rw.prog 36).name = ("law" : PySem.Str) := by kernel_rfl
      rw [← e]
      exact hmg0
    have T : ∀ base : Heap, K.In base → base.Ns mainGlobals mg → BW.Wk.Tx (PySem.Challenge.rw_busyweb_k65_whirls_counted).prog w K mg base := fun base _ _ => ⟨c, fun x z => He.glo_ok KX G z, fun x z => He.free_ok KX G z, fun x i z => He.int_ok KX G z, fun x z z2 => He.str_ok KX G z2⟩
    exact BW.law_end (m := BW.Wk.m_law) KX hmg (He.glo_ok KX G (c.d.fact 63 rfl)) (BW.Wk.ok_law c T) BW.Wk.law_true
