import PyProof.Rows.All
import Wide.All
import OpenK.AllK
import Wide.FinOn
import HandS.ForMost
import HandS.More
import HandS.Defaults
import HandS.Star
import HandS.Property
import HandS.ClsMeth
import HandS.IsInst
import HandS.HeadHook1
import HandS.HeadHook2
import HandS.HeadNt
import PySem.Challenge.RW_smalltowns_k98_whole_idle_reports_show_n
import KE.KStateDown
import Lean
import HandS.Head0
import HandS.Head1
import HandS.Head2
import HandS.HeadEnd
import HandS.Flow
import HandS.Style
import HandS.TupAny
import HandS.SetFor
import HandS.Strs
import HandS.Dict
import HandS.DictComp
import HandS.Iter
import KE.KDictZip
import KE.KTurns
import HandS.Keys
import KE.GoesMore
import KE.GoesEnum
import HandS.Text
import KE.KItemsList
import HandS.ListItems
import HandS.TupSets
import HandS.Zip
set_option Elab.async false
set_option linter.all false
set_option maxRecDepth 100000
set_option maxHeartbeats 0
/-! S2Facts (printed by gen_facts.py): the text by places, where its defs and classes stand, the facts that the walk leans on. -/
namespace K98
open PySem L2
def top (i : Nat) : Stmt := PySem.Challenge.pw_smalltowns_k98_whole_idle_reports_show_n.main.body.getD i (.Pass ⟨0, 0, 0, 0⟩)

abbrev s_number_in : Stmt := top 4
abbrev s_summed : Stmt := top 21
abbrev s_County_init : Stmt := inClass (top 26) 0
abbrev s_County_rows : Stmt := inClass (top 26) 4
abbrev s_County_contains : Stmt := inClass (top 26) 9
abbrev s_County_only : Stmt := inClass (top 26) 12
abbrev s_many_from : Stmt := top 29
abbrev s_places_of : Stmt := top 31
abbrev s_is_within : Stmt := top 33
abbrev s_Step_init : Stmt := inClass (top 41) 0
abbrev s_Step_of : Stmt := inClass (top 41) 1
abbrev s_Step_kind : Stmt := inClass (top 41) 2
abbrev s_Step_least : Stmt := inClass (top 41) 3
abbrev s_Step_call : Stmt := inClass (top 41) 5
abbrev s_least_in : Stmt := top 44
abbrev s_floors_in : Stmt := top 45
abbrev s_form_with : Stmt := top 46
abbrev s_form_of_step : Stmt := top 47
abbrev s_form_behind : Stmt := top 48
abbrev s_form_of_steps : Stmt := top 53
abbrev s_Script_init : Stmt := inClass (top 54) 0
abbrev s_Script_of : Stmt := inClass (top 54) 1
abbrev s_Script_steps : Stmt := inClass (top 54) 2
abbrev s_Script_form : Stmt := inClass (top 54) 4
abbrev s_Script_within : Stmt := inClass (top 54) 9
abbrev s_Script_call : Stmt := inClass (top 54) 12
abbrev s_Script_rshift : Stmt := inClass (top 54) 16
abbrev s_Board_init : Stmt := inClass (top 59) 0
abbrev s_Board_state : Stmt := inClass (top 59) 2
abbrev s_Board_keep : Stmt := inClass (top 59) 4
abbrev s_Board_check : Stmt := inClass (top 59) 5
abbrev s_Board_check_county : Stmt := inClass (top 59) 6
abbrev s_Board_setitem : Stmt := inClass (top 59) 15
abbrev s_Board_towns_of : Stmt := inClass (top 59) 17
abbrev s_Board_whole : Stmt := inClass (top 59) 18
abbrev s_Board_county_at : Stmt := inClass (top 59) 19
abbrev s_Board_shown_at : Stmt := inClass (top 59) 20
abbrev s_Board_sure : Stmt := inClass (top 59) 21
abbrev s_Board_idle : Stmt := inClass (top 59) 25
abbrev s_Board_turn : Stmt := inClass (top 59) 30
abbrev s_Board_put : Stmt := inClass (top 59) 31
abbrev s_Board_done : Stmt := inClass (top 59) 33
abbrev s_Board_attempt : Stmt := inClass (top 59) 34
abbrev s_law_box : Stmt := top 61
abbrev s_law_take : Stmt := top 62
abbrev s_law_cells : Stmt := top 63
abbrev s_law_of : Stmt := top 64
abbrev s_law_same : Stmt := top 65
abbrev s_law_stride : Stmt := top 66
abbrev s_law_line : Stmt := top 67
abbrev s_law_host : Stmt := top 68
abbrev s_law_left : Stmt := top 69
abbrev s_law_by_hand_right : Stmt := top 70
abbrev s_law_papers : Stmt := top 71
abbrev s_law_all_in : Stmt := top 72
abbrev s_law_right : Stmt := top 73
abbrev s_law : Stmt := top 74
abbrev cCounty : Addr := 415
abbrev cStep : Addr := 538
abbrev cScript : Addr := 756
abbrev cBoard : Addr := 1051
/-- a def of the text: where it stands, its names, its statement, its defaults -/
def df (a : Addr) (x q : PySem.Str) (st : Stmt) (ds : List He.Dv) : He5.DefA := ⟨fun _ => a, x, q, defArgs st, defBody st, defScope st, ds, []⟩
def fnL : List He5.DefA := ([df 38 "number_in" "number_in" s_number_in [], df 278 "summed" "summed" s_summed [], df 316 "__init__" "County.__init__" s_County_init [.adr fun _ => 308], df 343 "rows" "County.rows" s_County_rows [], df 374 "__contains__" "County.__contains__" s_County_contains [], df 393 "only" "County.only" s_County_only [], df 429 "many_from" "many_from" s_many_from [], df 439 "places_of" "places_of" s_places_of []] : List He5.DefA) ++ ([df 451 "is_within" "is_within" s_is_within [], df 487 "__init__" "Step.__init__" s_Step_init [], df 494 "of" "Step.of" s_Step_of [], df 504 "kind" "Step.kind" s_Step_kind [], df 512 "least" "Step.least" s_Step_least [], df 528 "__call__" "Step.__call__" s_Step_call [], df 549 "least_in" "least_in" s_least_in [], df 556 "floors_in" "floors_in" s_floors_in []] : List He5.DefA) ++ ([df 561 "form_with" "form_with" s_form_with [], df 568 "form_of_step" "form_of_step" s_form_of_step [], df 573 "form_behind" "form_behind" s_form_behind [], df 594 "form_of_steps" "form_of_steps" s_form_of_steps [], df 610 "__init__" "Script.__init__" s_Script_init [.adr fun _ => 602], df 615 "of" "Script.of" s_Script_of [], df 625 "steps" "Script.steps" s_Script_steps [], df 639 "form" "Script.form" s_Script_form []] : List He5.DefA) ++ ([df 678 "within" "Script.within" s_Script_within [], df 697 "__call__" "Script.__call__" s_Script_call [], df 725 "__rshift__" "Script.__rshift__" s_Script_rshift [], df 793 "__init__" "Board.__init__" s_Board_init [], df 807 "state" "Board.state" s_Board_state [], df 821 "keep" "Board.keep" s_Board_keep [], df 828 "check" "Board.check" s_Board_check [], df 835 "check_county" "Board.check_county" s_Board_check_county []] : List He5.DefA) ++ ([df 902 "__setitem__" "Board.__setitem__" s_Board_setitem [], df 914 "towns_of" "Board.towns_of" s_Board_towns_of [], df 921 "whole" "Board.whole" s_Board_whole [], df 926 "county_at" "Board.county_at" s_Board_county_at [], df 931 "shown_at" "Board.shown_at" s_Board_shown_at [], df 938 "sure" "Board.sure" s_Board_sure [], df 964 "idle" "Board.idle" s_Board_idle [], df 999 "turn" "Board.turn" s_Board_turn []] : List He5.DefA) ++ ([df 1006 "put" "Board.put" s_Board_put [], df 1020 "done" "Board.done" s_Board_done [], df 1027 "attempt" "Board.attempt" s_Board_attempt [], df 1062 "_law_box" "_law_box" s_law_box [], df 1069 "_law_take" "_law_take" s_law_take [], df 1076 "_law_cells" "_law_cells" s_law_cells [], df 1083 "_law_of" "_law_of" s_law_of [], df 1088 "_law_same" "_law_same" s_law_same []] : List He5.DefA) ++ ([df 1095 "_law_stride" "_law_stride" s_law_stride [], df 1100 "_law_line" "_law_line" s_law_line [], df 1105 "_law_host" "_law_host" s_law_host [], df 1110 "_law_left" "_law_left" s_law_left [], df 1117 "_law_by_hand_right" "_law_by_hand_right" s_law_by_hand_right [], df 1122 "_law_papers" "_law_papers" s_law_papers [], df 1127 "_law_all_in" "_law_all_in" s_law_all_in [], df 1132 "_law_right" "_law_right" s_law_right []] : List He5.DefA) ++ ([df 1137 "law" "law" s_law []] : List He5.DefA)
def adL : List Addr := ([3, 2, 415, 538, 756, 1051, 414, 537, 755, 1050, 473, 543, 544, 308, 309, 602, 603, 344, 505, 513] : List Addr) ++ ([626, 640, 496, 617, 38, 37, 278, 277, 316, 315, 343, 342, 374, 373, 393, 392, 429, 428, 439, 438] : List Addr) ++ ([451, 450, 487, 486, 494, 493, 504, 503, 512, 511, 528, 527, 549, 548, 556, 555, 561, 560, 568, 567] : List Addr) ++ ([573, 572, 594, 593, 610, 609, 615, 614, 625, 624, 639, 638, 678, 677, 697, 696, 725, 724, 793, 792] : List Addr) ++ ([807, 806, 821, 820, 828, 827, 835, 834, 902, 901, 914, 913, 921, 920, 926, 925, 931, 930, 938, 937] : List Addr) ++ ([964, 963, 999, 998, 1006, 1005, 1020, 1019, 1027, 1026, 1062, 1061, 1069, 1068, 1076, 1075, 1083, 1082, 1088, 1087] : List Addr) ++ ([1095, 1094, 1100, 1099, 1105, 1104, 1110, 1109, 1117, 1116, 1122, 1121, 1127, 1126, 1132, 1131, 1137, 1136] : List Addr)
def gloL : List (PySem.Str × Addr) := ([("number_in", 38), ("summed", 278), ("many_from", 429), ("places_of", 439), ("is_within", 451), ("least_in", 549), ("floors_in", 556), ("form_with", 561), ("form_of_step", 568), ("form_behind", 573), ("form_of_steps", 594), ("_law_box", 1062)] : List (PySem.Str × Addr)) ++ ([("_law_take", 1069), ("_law_cells", 1076), ("_law_of", 1083), ("_law_same", 1088), ("_law_stride", 1095), ("_law_line", 1100), ("_law_host", 1105), ("_law_left", 1110), ("_law_by_hand_right", 1117), ("_law_papers", 1122), ("_law_all_in", 1127), ("_law_right", 1132)] : List (PySem.Str × Addr)) ++ ([("law", 1137), ("County", 415), ("Step", 538), ("Script", 756), ("Board", 1051), ("KINDS", 473), ("START", 544)] : List (PySem.Str × Addr))
def strL : List (PySem.Str × PySem.Str) := ([("NOTHING", "-"), ("TOWN", "town"), ("COUNTY", "county"), ("BETWEEN", "; ")] : List (PySem.Str × PySem.Str))
def freL : List PySem.Str := (["len", "sum", "any", "all", "sorted", "set", "tuple", "list", "dict", "int", "abs", "max"] : List PySem.Str) ++ (["range", "enumerate", "zip", "isinstance", "bool", "str"] : List PySem.Str)
def mkrL : List (Addr × Addr) := ([(415, 316), (538, 487), (756, 610), (1051, 793)] : List (Addr × Addr))
def noaL : List (Addr × PySem.Str) := ([(415, "own_runs"), (538, "own_kind"), (538, "own_least"), (756, "own_steps"), (756, "own_form"), (1051, "own_book"), (1051, "own_house"), (1051, "own_reports"), (1051, "own_frames"), (1051, "own_past")] : List (Addr × PySem.Str))
def metL : List (Addr × PySem.Str × Addr) := ([(415, "only", 393), (415, "__contains__", 374), (538, "__call__", 528), (756, "within", 678), (756, "__call__", 697), (756, "__rshift__", 725), (1051, "state", 807), (1051, "keep", 821), (1051, "check", 828), (1051, "check_county", 835), (1051, "__setitem__", 902), (1051, "towns_of", 914)] : List (Addr × PySem.Str × Addr)) ++ ([(1051, "whole", 921), (1051, "county_at", 926), (1051, "shown_at", 931), (1051, "sure", 938), (1051, "idle", 964), (1051, "turn", 999), (1051, "put", 1006), (1051, "done", 1020), (1051, "attempt", 1027)] : List (Addr × PySem.Str × Addr))
def proL : List (Addr × PySem.Str × Addr × Addr) := ([(415, "rows", 344, 343), (538, "kind", 505, 504), (538, "least", 513, 512), (756, "steps", 626, 625), (756, "form", 640, 639)] : List (Addr × PySem.Str × Addr × Addr))
def staL : List (Addr × PySem.Str × Addr × Addr) := ([(538, "of", 496, 494), (756, "of", 617, 615)] : List (Addr × PySem.Str × Addr × Addr))
/-! ### the facts as tests -/
open PySem.W in
def gloB (K : Frag) (p : PySem.Str × Addr) : Bool := He.eqO (nsIn K mainGlobals p.1) (some (some (.ref p.2)))
open PySem.W in
def strB (K : Frag) (p : PySem.Str × PySem.Str) : Bool := match nsIn K mainGlobals p.1 with
  | some (some (.str y _)) => decide (y = p.2)
  | _ => false
open PySem.W in
def freB (K : Frag) (x : PySem.Str) : Bool := He.eqO (nsIn K mainGlobals x) (some none)
open PySem.W in
def clsB (K : Frag) (C : Addr) : Bool := plainGet K C Str.empty && (hasDictIn K C && (plainOver K C && He.eqO (findIn K (.ref C) "__setattr__") (some (some (.builtin "object.__setattr__")))))
open PySem.W in
def mkrB (K : Frag) (p : Addr × Addr) : Bool := makesIn K p.1 && (He.eqO (findIn K (.ref p.1) "__init__") (some (some (.ref p.2))) && (isFn K (.ref p.2) && keepIn K (.ref p.1)))
open PySem.W in
def noaB (K : Frag) (p : Addr × PySem.Str) : Bool := He.eqO (findIn K (.ref p.1) p.2) (some none)
open PySem.W in
def metB (K : Frag) (p : Addr × PySem.Str × Addr) : Bool := He.eqO (findIn K (.ref p.1) p.2.1) (some (some (.ref p.2.2))) && (isFn K (.ref p.2.2) && (keepIn K (.ref p.2.2) && fnIn K p.2.2))
open PySem.W in
def proB (K : Frag) (p : Addr × PySem.Str × Addr × Addr) : Bool := He.eqO (findIn K (.ref p.1) p.2.1) (some (some (.ref p.2.2.1))) && (He.eqO (specialIn K (.ref p.2.2.1) "__get__") (some (some (.builtin "property.__get__"))) &&
  (decide (takesIn K (.ref p.2.2.1) = some true) && (match recIn K p.2.2.1 "property" with
    | some (.ref g :: _) => decide (g = p.2.2.2)
    | _ => false)))
open PySem.W in
def staB (K : Frag) (p : Addr × PySem.Str × Addr × Addr) : Bool := (match findCls K (.ref p.1) (.type "type") p.2.1 with
    | some (.get (.builtin g) (.ref q) .none (.ref D)) => decide (g = "staticmethod.__get__") && (decide (q = p.2.2.1) && decide (D = p.1))
    | _ => false) && (match recIn K p.2.2.1 "staticmethod" with
    | some (.ref g :: _) => decide (g = p.2.2.2)
    | _ => false)
open PySem.W in
def readB (K : Frag) (C : Addr) : Bool := readsIn K C (.type "type") && He.eqO (specialIn K (.ref C) "__getattribute__") (some (some (.builtin "type.__getattribute__")))
/-- a tuple of the written part -/
def tupB (K : PySem.W.Frag) (a : Addr) (vs : List V) : Bool := match K.lookup a with
  | some ⟨.type c, _, .seq its _, _⟩ => decide (c = "tuple") && (decide (its.size ≤ sizeLine) && He.relAll vs its.toList)
  | _ => false
def fnB (K : PySem.W.Frag) : Bool := fnL.all fun d => d.ok K
open PySem.W in
def isiB (K : Frag) (C : Addr) : Bool := He.eqO (findIn K (.ref C) "__class__") (some (some (.builtin "object.__class__"))) && decide (mroIn K C (.type "object") = some true)
open PySem.W in
def oddB (K : Frag) : Bool := He.eqO (specialIn K (.builtin "object.__class__") "__get__") (some (some (.builtin "getset_descriptor.__get__"))) && (decide (takesIn K (.builtin "object.__class__") = some true) &&
  (decide (kitOne K (.ref 756) (.ref 538) = some false) && (noSeq K 1051 && selfFirst K 756)))
def tupsB (K : PySem.W.Frag) : Bool := tupB K 473 [.str "town", .str "county"] && (tupB K 544 [.ref 543] && (tupB K 543 [.int 1, .int 1] && (tupB K 308 [] && tupB K 602 [])))
/-- all of it -/
def exB (K : PySem.W.Frag) : Bool := gloL.all (gloB K) && (strL.all (strB K) && (freL.all (freB K) && (([415, 538, 756, 1051] : List Addr).all (clsB K) && (mkrL.all (mkrB K) && (noaL.all (noaB K) && (metL.all (metB K) && (proL.all (proB K) &&
  (staL.all (staB K) && (([538, 756] : List Addr).all (readB K) && (([538, 756] : List Addr).all (isiB K) && (oddB K && tupsB K)))))))))))
def obsK (K : PySem.W.Frag) : He.AlD := (exB K && fnB K, fnL.map fun d => He5.fnA K (d.at_ K))
def valK : He.AlD := (true, fnL.map He5.DefA.val)

end K98

/-! S9Head: the top's run in the kernel, with the facts read off its end. -/
namespace K98
open PySem PySem.Spec PyProof.Rows L2
abbrev rowR : PySem.W.OpenRow := PySem.W.OpenLaw.row PySem.Challenge.rw_smalltowns_k98_whole_idle_reports_show_n
def KK (g : Addr → Option Obj) : PySem.W.Frag := He.frG g adL
def theHook : PySem.W.Hook where
  α := He.AlD
  obs := fun s => obsK (KK s.heap.get?)
  val := fun _ => valK
  says := fun _ h => ∃ K : PySem.W.Frag, K.In h ∧ obsK K = valK
  of := fun _ _ e => ⟨_, He.frG_in, e⟩
  keeps := fun _ _ _ ⟨K, hK, c⟩ k => ⟨K, PySem.W.Frag.In.keeps hK k, c⟩
def obT (s : PySem.W.SharedT) : He.AlD := obsK (KK (HandSHeadRun.getT s))
theorem obT_eq (s : PySem.W.SharedT) : obT s = theHook.obs s.abs := by
  have e : HandSHeadRun.getT s = s.abs.heap.get? := funext fun a => HandSHeadRun.getT_eq s a
  show obsK (KK (HandSHeadRun.getT s)) = obsK (KK s.abs.heap.get?)
  rw [e]
def looseL : List PySem.Str := (["_wall", "is_number", "tupled", "number_in", "NoPlace", "NoTown", "BadText", "BadRun", "BadStep", "NoReport", "NoFrame", "NoName"] : List PySem.Str) ++ (["BadSize", "Outside", "Stopped", "NOTHING", "TIMES", "PAIR", "summed", "run_in", "run_text", "is_run", "is_runs", "County"] : List PySem.Str) ++ (["shown", "many_from", "has", "places_of", "joined", "is_within", "blended", "greatest_within", "least_around", "TOWN", "COUNTY", "KINDS"] : List PySem.Str) ++ (["Step", "START", "least_in", "floors_in", "form_with", "form_of_step", "form_behind", "power_of", "plain_steps", "BETWEEN", "form_of_steps", "Script"] : List PySem.Str) ++ (["in_frame", "told_by", "without", "Board", "_law_box", "_law_take", "_law_cells", "_law_of", "_law_same", "_law_stride", "_law_line", "_law_host"] : List PySem.Str) ++ (["_law_left", "_law_by_hand_right", "_law_papers", "_law_all_in", "_law_right"] : List PySem.Str)
theorem topRun (w : World) : HandSHeadRun.RunEq rowR (PySem.W.view rowR.prog [74]) theHook obT 9000 looseL w := by
  intro os
  kernel_rfl
end K98

/-! S0Math: the plain law: forms of scripts as floor lists, their order, what a script leaves; no program in sight. -/
namespace K98
abbrev P2 := Int × Int

/-! ### what the program reckons -/
def leastIn (f : List P2) : Int := (f.map fun p => p.2 - p.1 + 1).sum
def manyFrom (f : List P2) (k : Int) : Int := ((f.filter fun p => decide (k ≤ p.2)).map fun p => p.2 - (if k > p.1 then k else p.1) + 1).sum
def floorsGo : List P2 → Int → List P2
  | [], _ => []
  | p :: r, size => (size + p.2 - p.1 + 1, p.2 + size) :: floorsGo r (size + p.2 - p.1 + 1)
def floorsIn (f : List P2) : List P2 := floorsGo f.reverse 0
/-- neighbours that ask the same are one -/
def kept : List P2 → List P2
  | [] => []
  | [a] => if 0 = a.2 then [] else [a]
  | a :: b :: t => if b.2 = a.2 then kept (b :: t) else a :: kept (b :: t)
def runsGo : List P2 → Int → List P2
  | [], _ => []
  | p :: r, before => (p.2 - p.1 + 1, p.2 - before) :: runsGo r p.1
def formWith (fs : List P2) : List P2 := (runsGo (kept fs) 0).reverse
def stepForm (s : Bool × Int) : List P2 := if s.1 = true then [(1, s.2)] else [(s.2, s.2)]
def topOf (f : List P2) : Int := (f.getLast?.getD (0, 0)).2
def formBehind (one other : List P2) : List P2 :=
  formWith ((floorsIn one).map (fun p => (p.1, if topOf other > p.2 then topOf other else p.2)) ++ (floorsIn other).filter fun p => decide (leastIn one < p.1))
def formOf (ss : List (Bool × Int)) : List P2 := ss.foldl (fun f s => formBehind f (stepForm s)) [(1, 1)]
def placesRaw (one other : List P2) : List Int := 1 :: (one ++ other).flatMap fun p => [p.1, p.2 + 1]
def isWithin (one other : List P2) : Bool := (placesRaw one other).all fun k => decide (manyFrom other k ≤ manyFrom one k)
/-- what some steps leave of some towns -/
def left : List (Bool × Int) → List Int → List Int
  | [], ts => ts
  | (true, m) :: r, ts => left r (ts.filter fun t => decide (m ≤ t))
  | (false, m) :: r, ts => left r (if ts.sum < m then [] else ts)

/-! ### floors behind a step -/
def lastSize (fs : List P2) : Int := (fs.getLast?.getD (0, 0)).1

theorem floorsGo_runsGo : ∀ (ks : List P2) (b : Int), floorsGo (runsGo ks b) b = ks
  | [], _ => rfl
  | p :: r, b => by
    have e1 : b + (p.2 - b) - (p.2 - p.1 + 1) + 1 = p.1 := by omega
    have e2 : p.2 - b + b = p.2 := by omega
    show (b + (p.2 - b) - (p.2 - p.1 + 1) + 1, p.2 - b + b) :: floorsGo (runsGo r p.1) (b + (p.2 - b) - (p.2 - p.1 + 1) + 1) = p :: r
    rw [e1, e2, floorsGo_runsGo r p.1]
theorem floorsIn_runs (ks : List P2) : floorsIn (runsGo ks 0).reverse = ks := by
  unfold floorsIn
  rw [List.reverse_reverse, floorsGo_runsGo]
theorem floorsIn_formWith (gs : List P2) : floorsIn (formWith gs) = kept gs := floorsIn_runs _

theorem sum_append (a b : List Int) : (a ++ b).sum = a.sum + b.sum := by
  induction a with
  | nil => simp
  | cons x r ih => simp only [List.cons_append, List.sum_cons, ih]; omega
theorem sum_reverse (a : List Int) : a.reverse.sum = a.sum := by
  induction a with
  | nil => rfl
  | cons x r ih => simp only [List.reverse_cons, sum_append, ih, List.sum_cons, List.sum_nil]; omega
theorem least_runs : ∀ (ks : List P2) (b : Int), ((runsGo ks b).map fun p => p.2 - p.1 + 1).sum = (if ks = [] then 0 else lastSize ks - b)
  | [], b => rfl
  | [p], b => by
    show p.2 - b - (p.2 - p.1 + 1) + 1 + 0 = _
    rw [if_neg (by simp)]
    show _ = p.1 - b
    omega
  | p :: q :: r, b => by
    have ih := least_runs (q :: r) p.1
    rw [if_neg (by simp)] at ih
    show (p.2 - b - (p.2 - p.1 + 1) + 1) + ((runsGo (q :: r) p.1).map fun p => p.2 - p.1 + 1).sum = _
    rw [ih, if_neg (by simp)]
    have e : lastSize (p :: q :: r) = lastSize (q :: r) := by
      unfold lastSize
      rw [List.getLast?_cons_cons]
    rw [e]
    omega
theorem leastIn_runs (ks : List P2) : leastIn (runsGo ks 0).reverse = (if ks = [] then 0 else lastSize ks) := by
  unfold leastIn
  rw [List.map_reverse, sum_reverse, least_runs]
  split <;> omega

/-- the floors of steps -/
def flStep (fs : List P2) (s : Bool × Int) : List P2 :=
  kept (fs.map (fun p => (p.1, if s.2 > p.2 then s.2 else p.2)) ++ [((if s.1 = true then s.2 else 1), s.2)].filter fun p => decide (lastSize fs < p.1))
def fl (ss : List (Bool × Int)) : List P2 := ss.foldl flStep [(1, 1)]

theorem topOf_step (s : Bool × Int) : topOf (stepForm s) = s.2 := by
  obtain ⟨b, m⟩ := s
  cases b <;> rfl
theorem floorsIn_step (s : Bool × Int) : floorsIn (stepForm s) = [((if s.1 = true then s.2 else 1), s.2)] := by
  obtain ⟨b, m⟩ := s
  cases b
  · show [((0 : Int) + m - m + 1, m + 0)] = [(1, m)]
    have e1 : (0 : Int) + m - m + 1 = 1 := by omega
    have e2 : m + 0 = m := by omega
    rw [e1, e2]
  · show [((0 : Int) + m - 1 + 1, m + 0)] = [(m, m)]
    have e1 : (0 : Int) + m - 1 + 1 = m := by omega
    have e2 : m + 0 = m := by omega
    rw [e1, e2]

/-- a stair: sizes rise from s on, rows fall -/
def Stair : Int → List P2 → Prop
  | _, [] => True
  | s, p :: t => s < p.1 ∧ (∀ q ∈ t, q.2 < p.2) ∧ Stair p.1 t
/-- the same, rows may stay -/
def StairW : Int → List P2 → Prop
  | _, [] => True
  | s, p :: t => s < p.1 ∧ (∀ q ∈ t, q.2 ≤ p.2) ∧ StairW p.1 t

theorem stair_lt : ∀ {s : Int} {fs : List P2}, StairW s fs → ∀ p ∈ fs, s < p.1
  | _, [], _, p, h => nomatch h
  | s, a :: t, ⟨h1, _, h3⟩, p, h => by
    rcases List.mem_cons.mp h with rfl | h
    · exact h1
    · have := stair_lt h3 p h
      omega
theorem Stair.weak : ∀ {s : Int} {fs : List P2}, Stair s fs → StairW s fs
  | _, [], _ => trivial
  | s, a :: t, ⟨h1, h2, h3⟩ => ⟨h1, fun q hq => Int.le_of_lt (h2 q hq), h3.weak⟩
theorem kept_sub : ∀ (gs : List P2) (p : P2), p ∈ kept gs → p ∈ gs
  | [], p, h => h
  | [a], p, h => by
    unfold kept at h
    split at h
    · exact nomatch h
    · exact h
  | a :: b :: t, p, h => by
    unfold kept at h
    split at h
    · exact List.mem_cons_of_mem _ (kept_sub (b :: t) p h)
    · rcases List.mem_cons.mp h with rfl | h
      · exact List.mem_cons_self
      · exact List.mem_cons_of_mem _ (kept_sub (b :: t) p h)
theorem StairW.less {s s' : Int} (h : s' ≤ s) : ∀ {fs : List P2}, StairW s fs → StairW s' fs
  | [], _ => trivial
  | a :: t, ⟨h1, h2, h3⟩ => ⟨by omega, h2, h3⟩
theorem Stair.less {s s' : Int} (h : s' ≤ s) : ∀ {fs : List P2}, Stair s fs → Stair s' fs
  | [], _ => trivial
  | a :: t, ⟨h1, h2, h3⟩ => ⟨by omega, h2, h3⟩
theorem kept_stair : ∀ {s : Int} {gs : List P2}, StairW s gs → Stair s (kept gs)
  | s, [], _ => trivial
  | s, [a], ⟨h1, _, _⟩ => by
    unfold kept
    split
    · trivial
    · exact ⟨h1, fun _ h => (nomatch h), trivial⟩
  | s, a :: b :: t, ⟨h1, h2, h3⟩ => by
    have ih := kept_stair (s := a.1) (gs := b :: t) h3
    unfold kept
    split
    · exact ih.less (by omega)
    · rename_i ne
      refine ⟨h1, fun q hq => ?_, ih⟩
      have hb := h2 b List.mem_cons_self
      have hq' := kept_sub _ _ hq
      rcases List.mem_cons.mp hq' with rfl | hq'
      · omega
      · have := h3.2.1 q hq'
        omega
theorem kept_ne : ∀ {gs : List P2}, gs ≠ [] → (∀ p ∈ gs, 0 < p.2) → kept gs ≠ [] ∧ lastSize (kept gs) = lastSize gs
  | [], h, _ => absurd rfl h
  | [a], _, hp => by
    unfold kept
    have := hp a List.mem_cons_self
    rw [if_neg (by omega)]
    exact ⟨by simp, rfl⟩
  | a :: b :: t, _, hp => by
    have ih := kept_ne (gs := b :: t) (by simp) (fun p h => hp p (List.mem_cons_of_mem _ h))
    have e : lastSize (a :: b :: t) = lastSize (b :: t) := by
      unfold lastSize
      rw [List.getLast?_cons_cons]
    unfold kept
    split
    · exact ⟨ih.1, ih.2.trans e.symm⟩
    · refine ⟨by simp, ?_⟩
      rw [e, ← ih.2]
      cases q : kept (b :: t) with
      | nil => exact absurd q ih.1
      | cons c r =>
        unfold lastSize
        rw [List.getLast?_cons_cons]

/-- what holds of the floors of some steps -/
structure PInv (fs : List P2) : Prop where
  ne : fs ≠ []
  st : Stair 0 fs
  lo : ∀ p ∈ fs, lastSize fs ≤ p.2
  hi : ∀ p ∈ fs, p.2 ≤ 7
  one : 1 ≤ lastSize fs

theorem last_mem : ∀ {fs : List P2}, fs ≠ [] → ∃ r, (lastSize fs, r) ∈ fs
  | [], h => absurd rfl h
  | [a], _ => ⟨a.2, List.mem_cons_self⟩
  | a :: b :: t, _ => by
    obtain ⟨r, h⟩ := last_mem (fs := b :: t) (by simp)
    refine ⟨r, ?_⟩
    have e : lastSize (a :: b :: t) = lastSize (b :: t) := by
      unfold lastSize
      rw [List.getLast?_cons_cons]
    rw [e]
    exact List.mem_cons_of_mem _ h
theorem le_last : ∀ {s : Int} {fs : List P2}, StairW s fs → ∀ p ∈ fs, p.1 ≤ lastSize fs
  | _, [], _, p, h => nomatch h
  | s, [a], _, p, h => by
    rcases List.mem_cons.mp h with rfl | h
    · exact Int.le_refl _
    · exact nomatch h
  | s, a :: b :: t, ⟨h1, h2, h3⟩, p, h => by
    have e : lastSize (a :: b :: t) = lastSize (b :: t) := by
      unfold lastSize
      rw [List.getLast?_cons_cons]
    rw [e]
    rcases List.mem_cons.mp h with rfl | h
    · have := le_last h3 b List.mem_cons_self
      have := h3.1
      omega
    · exact le_last h3 p h

theorem stairW_map {m : Int} : ∀ {s : Int} {fs : List P2}, StairW s fs → StairW s (fs.map fun p => (p.1, if m > p.2 then m else p.2))
  | _, [], _ => trivial
  | s, a :: t, ⟨h1, h2, h3⟩ => by
    refine ⟨h1, fun q hq => ?_, stairW_map h3⟩
    obtain ⟨q', hq', rfl⟩ := List.mem_map.mp hq
    have := h2 q' hq'
    show (if m > q'.2 then m else q'.2) ≤ (if m > a.2 then m else a.2)
    split <;> split <;> omega
theorem stairW_snoc {z r : Int} : ∀ {s : Int} {fs : List P2}, StairW s fs → (∀ p ∈ fs, p.1 < z ∧ r ≤ p.2) → s < z → StairW s (fs ++ [(z, r)])
  | s, [], _, _, h => ⟨h, fun _ h => (nomatch h), trivial⟩
  | s, a :: t, ⟨h1, h2, h3⟩, hp, h => by
    have ha := hp a List.mem_cons_self
    refine ⟨h1, fun q hq => ?_, stairW_snoc h3 (fun p hm => hp p (List.mem_cons_of_mem _ hm)) ha.1⟩
    rcases List.mem_append.mp hq with hq | hq
    · exact h2 q hq
    · rcases List.mem_cons.mp hq with rfl | hq
      · exact ha.2
      · exact nomatch hq
theorem lastSize_map {m : Int} : ∀ (fs : List P2), lastSize (fs.map fun p => (p.1, if m > p.2 then m else p.2)) = lastSize fs
  | [] => rfl
  | [a] => rfl
  | a :: b :: t => by
    have ih := lastSize_map (m := m) (b :: t)
    unfold lastSize at ih ⊢
    rw [List.map_cons, List.map_cons, List.getLast?_cons_cons, List.getLast?_cons_cons]
    exact ih
theorem lastSize_snoc (fs : List P2) (p : P2) : lastSize (fs ++ [p]) = p.1 := by
  unfold lastSize
  rw [List.getLast?_concat] <;> rfl

/-- the list ahead of `kept` -/
def flPre (fs : List P2) (s : Bool × Int) : List P2 :=
  fs.map (fun p => (p.1, if s.2 > p.2 then s.2 else p.2)) ++ [((if s.1 = true then s.2 else 1), s.2)].filter fun p => decide (lastSize fs < p.1)
theorem flPre_town {fs : List P2} {m : Int} (h : lastSize fs < m) : flPre fs (true, m) = fs.map (fun p => (p.1, if m > p.2 then m else p.2)) ++ [(m, m)] := by
  show _ ++ [(m, m)].filter _ = _
  rw [List.filter_cons_of_pos (by simpa using h)]
  rfl
theorem flPre_not {fs : List P2} {s : Bool × Int} (h : ¬ lastSize fs < (if s.1 = true then s.2 else 1)) : flPre fs s = fs.map (fun p => (p.1, if s.2 > p.2 then s.2 else p.2)) := by
  unfold flPre
  rw [List.filter_cons_of_neg (by simpa using h), List.filter_nil, List.append_nil]

structure Pre (fs : List P2) (s : Bool × Int) : Prop where
  ne : flPre fs s ≠ []
  st : StairW 0 (flPre fs s)
  lo : ∀ p ∈ flPre fs s, lastSize (flPre fs s) ≤ p.2
  hi : ∀ p ∈ flPre fs s, p.2 ≤ 7
  one : 1 ≤ lastSize (flPre fs s)
  last : lastSize (flPre fs s) = if s.1 = true then (if lastSize fs < s.2 then s.2 else lastSize fs) else lastSize fs

theorem pre_of {fs : List P2} (I : PInv fs) {s : Bool × Int} (h1 : 1 ≤ s.2) (h7 : s.2 ≤ 7) : Pre fs s := by
  obtain ⟨b, m⟩ := s
  replace h1 : 1 ≤ m := h1
  replace h7 : m ≤ 7 := h7
  have ww := stairW_map (m := m) I.st.weak
  have one := I.one
  have lom : ∀ p ∈ fs.map (fun p => (p.1, if m > p.2 then m else p.2)), lastSize fs ≤ p.2 ∧ m ≤ p.2 ∧ p.2 ≤ 7 ∧ p.1 ≤ lastSize fs := fun p hp => by
    obtain ⟨q, hq, rfl⟩ := List.mem_map.mp hp
    have a1 := I.lo q hq
    have a2 := I.hi q hq
    have a3 := le_last I.st.weak q hq
    show lastSize fs ≤ (if m > q.2 then m else q.2) ∧ m ≤ (if m > q.2 then m else q.2) ∧ (if m > q.2 then m else q.2) ≤ 7 ∧ q.1 ≤ lastSize fs
    split <;> exact ⟨by omega, by omega, by omega, a3⟩
  by_cases hb : b = true ∧ lastSize fs < m
  · obtain ⟨rfl, hlt⟩ := hb
    have e := flPre_town hlt
    have el : lastSize (flPre fs (true, m)) = m := by rw [e, lastSize_snoc]
    refine ⟨?_, ?_, ?_, ?_, ?_, ?_⟩
    · rw [e]; simp
    · rw [e]
      refine stairW_snoc ww (fun p hp => ?_) (by omega)
      have := lom p hp
      exact ⟨by omega, this.2.1⟩
    · intro p hp
      rw [el]
      rw [e] at hp
      rcases List.mem_append.mp hp with hp | hp
      · exact (lom p hp).2.1
      · rcases List.mem_cons.mp hp with rfl | hp
        · exact Int.le_refl _
        · exact nomatch hp
    · intro p hp
      rw [e] at hp
      rcases List.mem_append.mp hp with hp | hp
      · exact (lom p hp).2.2.1
      · rcases List.mem_cons.mp hp with rfl | hp
        · exact h7
        · exact nomatch hp
    · rw [el]; exact h1
    · rw [el, if_pos rfl, if_pos hlt]
  · have hn : ¬ lastSize fs < (if (b, m).1 = true then (b, m).2 else 1) := by
      show ¬ lastSize fs < (if b = true then m else 1)
      cases b with
      | true =>
        rw [if_pos rfl]
        exact fun z => hb ⟨rfl, z⟩
      | false =>
        rw [if_neg (by decide)]
        omega
    have e := flPre_not hn
    have el : lastSize (flPre fs (b, m)) = lastSize fs := by rw [e, lastSize_map]
    refine ⟨?_, ?_, ?_, ?_, ?_, ?_⟩
    · rw [e]
      intro z
      exact I.ne (List.map_eq_nil_iff.mp z)
    · rw [e]; exact ww
    · intro p hp
      rw [el]
      rw [e] at hp
      exact (lom p hp).1
    · intro p hp
      rw [e] at hp
      exact (lom p hp).2.2.1
    · rw [el]; exact one
    · rw [el]
      cases b with
      | true =>
        rw [if_pos rfl, if_neg (fun z => hb ⟨rfl, z⟩)]
      | false => rw [if_neg (by intro z; cases z)]
theorem inv_step {fs : List P2} (I : PInv fs) {s : Bool × Int} (h1 : 1 ≤ s.2) (h7 : s.2 ≤ 7) : PInv (flStep fs s) := by
  have p := pre_of I h1 h7
  have pos : ∀ q ∈ flPre fs s, 0 < q.2 := fun q hq => by
    have := p.lo q hq
    have := p.one
    omega
  have k := kept_ne p.ne pos
  show PInv (kept (flPre fs s))
  refine ⟨k.1, kept_stair p.st, fun q hq => ?_, fun q hq => p.hi q (kept_sub _ _ hq), ?_⟩
  · rw [k.2]
    exact p.lo q (kept_sub _ _ hq)
  · rw [k.2]
    exact p.one
theorem last_step {fs : List P2} (I : PInv fs) {s : Bool × Int} (h1 : 1 ≤ s.2) (h7 : s.2 ≤ 7) : lastSize (flStep fs s) = if s.1 = true then (if lastSize fs < s.2 then s.2 else lastSize fs) else lastSize fs := by
  have p := pre_of I h1 h7
  have pos : ∀ q ∈ flPre fs s, 0 < q.2 := fun q hq => by
    have := p.lo q hq
    have := p.one
    omega
  show lastSize (kept (flPre fs s)) = _
  rw [(kept_ne p.ne pos).2, p.last]
/-- steps as the law draws them -/
def Small (ss : List (Bool × Int)) : Prop := ∀ s ∈ ss, 1 ≤ s.2 ∧ s.2 ≤ 7
theorem inv_fold : ∀ (ss : List (Bool × Int)) (fs : List P2), PInv fs → Small ss → PInv (ss.foldl flStep fs)
  | [], _, I, _ => I
  | s :: r, fs, I, h => inv_fold r _ (inv_step I (h s List.mem_cons_self).1 (h s List.mem_cons_self).2) fun q hq => h q (List.mem_cons_of_mem _ hq)
theorem one_only {p : P2} (h : p ∈ [((1 : Int), (1 : Int))]) : p = (1, 1) := by
  rcases List.mem_cons.mp h with h | h
  · exact h
  · exact nomatch h
theorem inv_start : PInv [(1, 1)] := ⟨by simp, ⟨by decide, fun _ h => (nomatch h), trivial⟩, fun p h => by rw [one_only h]; decide, fun p h => by rw [one_only h]; decide, by decide⟩
theorem inv_fl {ss : List (Bool × Int)} (h : Small ss) : PInv (fl ss) := inv_fold ss _ inv_start h

/-- a form is its floors -/
def mk (fs : List P2) : List P2 := (runsGo fs 0).reverse
theorem floorsIn_mk (fs : List P2) : floorsIn (mk fs) = fs := floorsIn_runs fs
theorem leastIn_mk {fs : List P2} (h : fs ≠ []) : leastIn (mk fs) = lastSize fs := by
  unfold mk
  rw [leastIn_runs, if_neg h]
theorem formBehind_mk {fs : List P2} (h : fs ≠ []) (s : Bool × Int) : formBehind (mk fs) (stepForm s) = mk (flStep fs s) := by
  unfold formBehind
  rw [floorsIn_mk, leastIn_mk h, topOf_step, floorsIn_step]
  rfl
theorem form_fold : ∀ (ss : List (Bool × Int)) (fs : List P2), PInv fs → Small ss → ss.foldl (fun f s => formBehind f (stepForm s)) (mk fs) = mk (ss.foldl flStep fs)
  | [], _, _, _ => rfl
  | s :: r, fs, I, h => by
    rw [List.foldl_cons, List.foldl_cons, formBehind_mk I.ne]
    exact form_fold r _ (inv_step I (h s List.mem_cons_self).1 (h s List.mem_cons_self).2) fun q hq => h q (List.mem_cons_of_mem _ hq)
theorem formOf_fl {ss : List (Bool × Int)} (h : Small ss) : formOf ss = mk (fl ss) := form_fold ss [(1, 1)] inv_start h

/-! ### what steps leave, by floors -/
def rowsFrom (ts : List Int) (k : Int) : Int := (ts.filter fun t => decide (k ≤ t)).sum
def Asks (fs : List P2) (ts : List Int) : Prop := ∀ p ∈ fs, p.2 ≤ rowsFrom ts p.1
instance (fs : List P2) (ts : List Int) : Decidable (Asks fs ts) := by
  unfold Asks
  infer_instance
def shows (fs : List P2) (ts : List Int) : List Int := if Asks fs ts then ts.filter (fun t => decide (lastSize fs ≤ t)) else []
def PosTs (ts : List Int) : Prop := ∀ t ∈ ts, 1 ≤ t

theorem sum_nonneg : ∀ {ts : List Int}, (∀ t ∈ ts, 0 ≤ t) → 0 ≤ ts.sum
  | [], _ => Int.le_refl 0
  | t :: r, h => by
    have := h t List.mem_cons_self
    have := sum_nonneg (ts := r) fun q hq => h q (List.mem_cons_of_mem _ hq)
    rw [List.sum_cons]
    omega
theorem le_sum : ∀ {ts : List Int}, (∀ t ∈ ts, 0 ≤ t) → ∀ t ∈ ts, t ≤ ts.sum
  | [], _, _, h => nomatch h
  | a :: r, h, t, ht => by
    have h1 := h a List.mem_cons_self
    have h2 := sum_nonneg (ts := r) fun q hq => h q (List.mem_cons_of_mem _ hq)
    rw [List.sum_cons]
    rcases List.mem_cons.mp ht with rfl | ht
    · omega
    · have := le_sum (ts := r) (fun q hq => h q (List.mem_cons_of_mem _ hq)) t ht
      omega
theorem rows_mono {ts : List Int} (hp : PosTs ts) {j k : Int} (h : j ≤ k) : rowsFrom ts k ≤ rowsFrom ts j := by
  unfold rowsFrom
  induction ts with
  | nil => exact Int.le_refl _
  | cons t r ih =>
    have ih := ih fun q hq => hp q (List.mem_cons_of_mem _ hq)
    have ht := hp t List.mem_cons_self
    by_cases c1 : k ≤ t
    · rw [List.filter_cons_of_pos (by simpa using c1), List.filter_cons_of_pos (by simpa using Int.le_trans h c1), List.sum_cons, List.sum_cons]
      omega
    · rw [List.filter_cons_of_neg (by simpa using c1)]
      by_cases c2 : j ≤ t
      · rw [List.filter_cons_of_pos (by simpa using c2), List.sum_cons]
        omega
      · rw [List.filter_cons_of_neg (by simpa using c2)]
        exact ih
theorem le_rows {ts : List Int} (hp : PosTs ts) {t k : Int} (ht : t ∈ ts) (h : k ≤ t) : t ≤ rowsFrom ts k := by
  unfold rowsFrom
  exact le_sum (fun q hq => by have := hp q (List.mem_filter.mp hq).1; omega) t (List.mem_filter.mpr ⟨ht, by simpa using h⟩)
theorem asks_kept : ∀ {s : Int} {gs : List P2} {ts : List Int}, PosTs ts → StairW s gs → (Asks (kept gs) ts ↔ Asks gs ts)
  | _, [], _, _, _ => Iff.rfl
  | s, [a], ts, hp, _ => by
    unfold kept
    split
    · rename_i e
      refine ⟨fun _ p h => ?_, fun _ _ h => (nomatch h)⟩
      rcases List.mem_cons.mp h with rfl | h
      · rw [← e]
        exact sum_nonneg fun t ht => by have := hp t (List.mem_filter.mp ht).1; omega
      · exact nomatch h
    · exact Iff.rfl
  | s, a :: b :: t, ts, hp, ⟨h1, h2, h3⟩ => by
    have ih := asks_kept (s := a.1) (gs := b :: t) (ts := ts) hp h3
    unfold kept
    split
    · rename_i e
      rw [ih]
      refine ⟨fun h p hm => ?_, fun h p hm => h p (List.mem_cons_of_mem _ hm)⟩
      rcases List.mem_cons.mp hm with rfl | hm
      · have := h b List.mem_cons_self
        have := rows_mono hp (j := p.1) (k := b.1) (Int.le_of_lt h3.1)
        omega
      · exact h p hm
    · refine ⟨fun h p hm => ?_, fun h p hm => ?_⟩
      · rcases List.mem_cons.mp hm with rfl | hm
        · exact h p List.mem_cons_self
        · exact (ih.mp fun q hq => h q (List.mem_cons_of_mem _ hq)) p hm
      · rcases List.mem_cons.mp hm with rfl | hm
        · exact h p List.mem_cons_self
        · exact (ih.mpr fun q hq => h q (List.mem_cons_of_mem _ hq)) p hm
theorem filter_filter_le (ts : List Int) (a b : Int) : (ts.filter fun t => decide (a ≤ t)).filter (fun t => decide (b ≤ t)) = ts.filter fun t => decide ((if a < b then b else a) ≤ t) := by
  rw [List.filter_filter]
  refine List.filter_congr fun t _ => ?_
  rw [Bool.eq_iff_iff]
  simp only [Bool.and_eq_true, decide_eq_true_eq]
  split <;> omega
theorem filter_none {ts : List Int} {k : Int} (h : ∀ t ∈ ts, ¬ k ≤ t) : (ts.filter fun t => decide (k ≤ t)) = [] :=
  List.filter_eq_nil_iff.mpr fun t ht => by simpa using h t ht

theorem shows_town {fs : List P2} (I : PInv fs) {m : Int} (h1 : 1 ≤ m) (h7 : m ≤ 7) {ts : List Int} (hp : PosTs ts) : (shows fs ts).filter (fun t => decide (m ≤ t)) = shows (flStep fs (true, m)) ts := by
  have p := pre_of I (s := (true, m)) h1 h7
  have el := last_step I (s := (true, m)) h1 h7
  replace el : lastSize (flStep fs (true, m)) = if lastSize fs < m then m else lastSize fs := el
  have ek : Asks (flStep fs (true, m)) ts ↔ Asks (flPre fs (true, m)) ts := asks_kept hp p.st
  by_cases ex : ∃ t ∈ ts, (if lastSize fs < m then m else lastSize fs) ≤ t
  · obtain ⟨t, ht, hle⟩ := ex
    have hm : m ≤ t ∧ lastSize fs ≤ t := by
      split at hle <;> omega
    have ea : Asks (flPre fs (true, m)) ts ↔ Asks fs ts := by
      have big : ∀ q ∈ fs, m ≤ rowsFrom ts q.1 := fun q hq => by
        have := le_last I.st.weak q hq
        have := le_rows hp ht (k := q.1) (by omega)
        omega
      have main : Asks (fs.map fun p => (p.1, if m > p.2 then m else p.2)) ts ↔ Asks fs ts := by
        refine ⟨fun h q hq => ?_, fun h q hq => ?_⟩
        · have z := h _ (List.mem_map.mpr ⟨q, hq, rfl⟩)
          have z' : (if m > q.2 then m else q.2) ≤ rowsFrom ts q.1 := z
          split at z' <;> omega
        · obtain ⟨q', hq', rfl⟩ := List.mem_map.mp hq
          have z := h q' hq'
          have z2 := big q' hq'
          show (if m > q'.2 then m else q'.2) ≤ rowsFrom ts q'.1
          split <;> omega
      by_cases c : lastSize fs < m
      · rw [flPre_town c]
        refine ⟨fun h => main.mp fun q hq => h q (List.mem_append.mpr (.inl hq)), fun h q hq => ?_⟩
        rcases List.mem_append.mp hq with hq | hq
        · exact main.mpr h q hq
        · rcases List.mem_cons.mp hq with rfl | hq
          · have := le_rows hp ht (k := m) hm.1
            show m ≤ rowsFrom ts m
            omega
          · exact nomatch hq
      · rw [flPre_not (by simpa using c)]
        exact main
    unfold shows
    by_cases c : Asks fs ts
    · rw [if_pos c, if_pos (ek.mpr (ea.mpr c)), filter_filter_le, el]
    · rw [if_neg c, if_neg fun z => c (ea.mp (ek.mp z))]
      rfl
  · have no : ∀ t ∈ ts, ¬ (if lastSize fs < m then m else lastSize fs) ≤ t := fun t ht hle => ex ⟨t, ht, hle⟩
    have e2 : shows (flStep fs (true, m)) ts = [] := by
      unfold shows
      split
      · rw [el]
        exact filter_none no
      · rfl
    rw [e2]
    unfold shows
    split
    · rw [filter_filter_le]
      exact filter_none no
    · rfl
theorem shows_county {fs : List P2} (I : PInv fs) {m : Int} (h1 : 1 ≤ m) (h7 : m ≤ 7) {ts : List Int} (hp : PosTs ts) : (if (shows fs ts).sum < m then [] else shows fs ts) = shows (flStep fs (false, m)) ts := by
  have p := pre_of I (s := (false, m)) h1 h7
  have el : lastSize (flStep fs (false, m)) = lastSize fs := last_step I (s := (false, m)) h1 h7
  have ek : Asks (flStep fs (false, m)) ts ↔ Asks (flPre fs (false, m)) ts := asks_kept hp p.st
  have one := I.one
  have en : flPre fs (false, m) = fs.map (fun p => (p.1, if m > p.2 then m else p.2)) := flPre_not (by
    show ¬ lastSize fs < (if false = true then m else 1)
    rw [if_neg (by decide)]
    omega)
  have ea : Asks (flPre fs (false, m)) ts ↔ Asks fs ts ∧ m ≤ rowsFrom ts (lastSize fs) := by
    rw [en]
    refine ⟨fun h => ⟨fun q hq => ?_, ?_⟩, fun h q hq => ?_⟩
    · have z : (if m > q.2 then m else q.2) ≤ rowsFrom ts q.1 := h _ (List.mem_map.mpr ⟨q, hq, rfl⟩)
      split at z <;> omega
    · obtain ⟨r, hr⟩ := last_mem I.ne
      have z : (if m > r then m else r) ≤ rowsFrom ts (lastSize fs) := h _ (List.mem_map.mpr ⟨_, hr, rfl⟩)
      split at z <;> omega
    · obtain ⟨q', hq', rfl⟩ := List.mem_map.mp hq
      have z := h.1 q' hq'
      have z2 := rows_mono hp (j := q'.1) (k := lastSize fs) (le_last I.st.weak q' hq')
      have z3 := h.2
      show (if m > q'.2 then m else q'.2) ≤ rowsFrom ts q'.1
      split <;> omega
  unfold shows
  by_cases c : Asks fs ts
  · rw [if_pos c]
    by_cases c2 : m ≤ rowsFrom ts (lastSize fs)
    · rw [if_pos (ek.mpr (ea.mpr ⟨c, c2⟩)), el, if_neg]
      show ¬ rowsFrom ts (lastSize fs) < m
      omega
    · rw [if_neg fun z => c2 (ea.mp (ek.mp z)).2, if_pos]
      show rowsFrom ts (lastSize fs) < m
      omega
  · rw [if_neg c, if_neg fun z => c (ea.mp (ek.mp z)).1]
    split <;> rfl
theorem left_shows : ∀ (ss : List (Bool × Int)) (fs : List P2) (ts : List Int), PInv fs → Small ss → PosTs ts → left ss (shows fs ts) = shows (ss.foldl flStep fs) ts
  | [], _, _, _, _, _ => rfl
  | (true, m) :: r, fs, ts, I, h, hp => by
    have hm := h (true, m) List.mem_cons_self
    show left r ((shows fs ts).filter fun t => decide (m ≤ t)) = _
    rw [shows_town I hm.1 hm.2 hp]
    exact left_shows r _ ts (inv_step I hm.1 hm.2) (fun q hq => h q (List.mem_cons_of_mem _ hq)) hp
  | (false, m) :: r, fs, ts, I, h, hp => by
    have hm := h (false, m) List.mem_cons_self
    show left r (if (shows fs ts).sum < m then [] else shows fs ts) = _
    rw [shows_county I hm.1 hm.2 hp]
    exact left_shows r _ ts (inv_step I hm.1 hm.2) (fun q hq => h q (List.mem_cons_of_mem _ hq)) hp
theorem shows_start {ts : List Int} (hp : PosTs ts) : shows [(1, 1)] ts = ts := by
  have e : (ts.filter fun t => decide ((1 : Int) ≤ t)) = ts := List.filter_eq_self.mpr fun t ht => by simpa using hp t ht
  unfold shows
  split
  · exact e
  · rename_i c
    cases ts with
    | nil => rfl
    | cons t r =>
      refine absurd (fun p hq => ?_) c
      rcases List.mem_cons.mp hq with rfl | hq
      · have h1 := hp t List.mem_cons_self
        have := le_rows hp (t := t) (k := 1) List.mem_cons_self h1
        show (1 : Int) ≤ rowsFrom (t :: r) 1
        omega
      · exact nomatch hq
theorem left_eq {ss : List (Bool × Int)} (h : Small ss) {ts : List Int} (hp : PosTs ts) : left ss ts = shows (fl ss) ts := by
  have e := left_shows ss [(1, 1)] ts inv_start h hp
  rw [shows_start hp] at e
  exact e

/-! ### the order, by floors -/
/-- the floor of a size -/
def fo : List P2 → Int → Int
  | [], _ => 0
  | p :: t, y => if y ≤ p.1 then p.2 else fo t y
def many (fs : List P2) (s k : Int) : Int := (((runsGo fs s).filter fun p => decide (k ≤ p.2)).map fun p => p.2 - (if k > p.1 then k else p.1) + 1).sum
theorem manyFrom_mk (fs : List P2) (k : Int) : manyFrom (mk fs) k = many fs 0 k := by
  unfold manyFrom mk many
  rw [List.filter_reverse, List.map_reverse, sum_reverse]
theorem many_cons (p : P2) (t : List P2) (s k : Int) : many (p :: t) s k = (if k ≤ p.2 - s then p.2 - s - (if k > p.2 - p.1 + 1 then k else p.2 - p.1 + 1) + 1 else 0) + many t p.1 k := by
  unfold many
  show (((((p.2 - p.1 + 1, p.2 - s) : P2) :: runsGo t p.1).filter fun p => decide (k ≤ p.2)).map fun p => p.2 - (if k > p.1 then k else p.1) + 1).sum = _
  by_cases c : k ≤ p.2 - s
  · rw [List.filter_cons_of_pos (by simpa using c), List.map_cons, List.sum_cons, if_pos c]
  · rw [List.filter_cons_of_neg (by simpa using c), if_neg c, Int.zero_add]
theorem many_nonneg : ∀ (fs : List P2) (s k : Int), Stair s fs → 0 ≤ many fs s k
  | [], _, _, _ => Int.le_refl _
  | p :: t, s, k, ⟨h1, _, h3⟩ => by
    have := many_nonneg t p.1 k h3
    rw [many_cons]
    split
    · split <;> omega
    · omega
theorem many_zero : ∀ (fs : List P2) (s k : Int), Stair s fs → (∀ q ∈ fs, q.2 - s < k) → many fs s k = 0
  | [], _, _, _, _ => rfl
  | p :: t, s, k, ⟨h1, h2, h3⟩, h => by
    have hp := h p List.mem_cons_self
    have := many_zero t p.1 k h3 fun q hq => by
      have := h2 q hq
      omega
    rw [many_cons, this, if_neg (by omega)]
    rfl
theorem many_le : ∀ (fs : List P2) (s k : Int), Stair s fs → fs ≠ [] → many fs s k ≤ lastSize fs - s
  | [], _, _, _, h => absurd rfl h
  | [p], s, k, ⟨h1, _, _⟩, _ => by
    rw [many_cons]
    show _ + 0 ≤ p.1 - s
    split
    · split <;> omega
    · omega
  | p :: q :: t, s, k, ⟨h1, _, h3⟩, _ => by
    have ih := many_le (q :: t) p.1 k h3 (by simp)
    have e : lastSize (p :: q :: t) = lastSize (q :: t) := by
      unfold lastSize
      rw [List.getLast?_cons_cons]
    rw [many_cons, e]
    split
    · split <;> omega
    · omega
theorem fo_mem : ∀ {fs : List P2} {s y : Int}, Stair s fs → fs ≠ [] → y ≤ lastSize fs → ∃ z, (z, fo fs y) ∈ fs ∧ y ≤ z
  | [], _, _, _, h, _ => absurd rfl h
  | [p], s, y, _, _, h => by
    have h' : y ≤ p.1 := h
    refine ⟨p.1, ?_, h'⟩
    unfold fo
    rw [if_pos h']
    exact List.mem_cons_self
  | p :: q :: t, s, y, ⟨_, _, h3⟩, _, h => by
    by_cases c : y ≤ p.1
    · refine ⟨p.1, ?_, c⟩
      unfold fo
      rw [if_pos c]
      exact List.mem_cons_self
    · have e : lastSize (p :: q :: t) = lastSize (q :: t) := by
        unfold lastSize
        rw [List.getLast?_cons_cons]
      rw [e] at h
      obtain ⟨z, hz, hy⟩ := fo_mem (fs := q :: t) h3 (by simp) h
      refine ⟨z, ?_, hy⟩
      unfold fo
      rw [if_neg c]
      exact List.mem_cons_of_mem _ hz
/-- what stands from a size on asks no more than the floor there -/
theorem le_fo : ∀ {fs : List P2} {s y : Int}, Stair s fs → ∀ p ∈ fs, y ≤ p.1 → p.2 ≤ fo fs y
  | [], _, _, _, _, h, _ => nomatch h
  | q :: t, s, y, ⟨_, h2, h3⟩, p, hp, hy => by
    unfold fo
    rcases List.mem_cons.mp hp with rfl | hp
    · rw [if_pos hy]
      exact Int.le_refl _
    · split
      · exact Int.le_of_lt (h2 p hp)
      · exact le_fo h3 p hp hy
theorem fo_at : ∀ {fs : List P2} {s : Int}, Stair s fs → ∀ p ∈ fs, fo fs p.1 = p.2
  | [], _, _, _, h => nomatch h
  | q :: t, s, ⟨_, _, h3⟩, p, hp => by
    unfold fo
    rcases List.mem_cons.mp hp with rfl | hp
    · rw [if_pos (Int.le_refl _)]
    · have := stair_lt h3.weak p hp
      rw [if_neg (by omega)]
      exact fo_at h3 p hp
theorem many_iff : ∀ (fs : List P2) (s y k : Int), Stair s fs → fs ≠ [] → s < y → y ≤ lastSize fs → (y - s ≤ many fs s k ↔ k ≤ fo fs y - y + 1)
  | [], _, _, _, _, h, _, _ => absurd rfl h
  | p :: t, s, y, k, ⟨h1, h2, h3⟩, _, hs, hl => by
    have nn := many_nonneg t p.1 k h3
    have zz : p.2 - p.1 + 1 < k → many t p.1 k = 0 := fun hk => many_zero t p.1 k h3 fun q hq => by
      have := h2 q hq
      omega
    rw [many_cons]
    unfold fo
    by_cases c : y ≤ p.1
    · rw [if_pos c]
      by_cases c1 : k ≤ p.2 - p.1 + 1
      · rw [if_pos (by omega), if_neg (by omega)]
        constructor <;> intro _ <;> omega
      · have z := zz (by omega)
        rw [z]
        by_cases c2 : k ≤ p.2 - s
        · rw [if_pos c2, if_pos (by omega)]
          constructor <;> intro _ <;> omega
        · rw [if_neg c2]
          constructor <;> intro _ <;> omega
    · rw [if_neg c]
      cases t with
      | nil => exact absurd hl (by show ¬ y ≤ p.1; exact c)
      | cons q t =>
        have e : lastSize (p :: q :: t) = lastSize (q :: t) := by
          unfold lastSize
          rw [List.getLast?_cons_cons]
        rw [e] at hl
        have ih := many_iff (q :: t) p.1 y k h3 (by simp) (by omega) hl
        by_cases c1 : k ≤ p.2 - p.1 + 1
        · rw [if_pos (by omega), if_neg (by omega), ← ih]
          constructor <;> intro _ <;> omega
        · have z := zz (by omega)
          obtain ⟨zz', hz, hy⟩ := fo_mem (fs := q :: t) h3 (by simp) hl
          have := h2 _ hz
          rw [z]
          constructor
          · intro hh
            exfalso
            revert hh
            split
            · split <;> intro hh <;> omega
            · intro hh
              omega
          · intro hh
            exfalso
            have : fo (q :: t) y < p.2 := h2 _ hz
            omega

theorem within_floors {S T : List P2} (IS : PInv S) (IT : PInv T) (h : isWithin (mk S) (mk T) = true) : ∀ p ∈ T, p.1 ≤ lastSize S ∧ p.2 ≤ fo S p.1 := fun p hp => by
  have hall := List.all_eq_true.mp h
  have runsMem : ∀ (fs : List P2) (s : Int), ∀ p ∈ fs, ∃ q ∈ runsGo fs s, q.1 = p.2 - p.1 + 1 := by
    intro fs
    induction fs with
    | nil => intro s p hp; exact nomatch hp
    | cons a t ih =>
      intro s p hp
      rcases List.mem_cons.mp hp with rfl | hp
      · exact ⟨_, List.mem_cons_self, rfl⟩
      · obtain ⟨q, hq, e⟩ := ih a.1 p hp
        exact ⟨q, List.mem_cons_of_mem _ hq, e⟩
  obtain ⟨q, hq, eq⟩ := runsMem T 0 p hp
  have hk : p.2 - p.1 + 1 ∈ placesRaw (mk S) (mk T) := by
    refine List.mem_cons_of_mem _ (List.mem_flatMap.mpr ⟨q, List.mem_append.mpr (.inr (List.mem_reverse.mpr hq)), ?_⟩)
    rw [← eq]
    exact List.mem_cons_self
  have z := of_decide_eq_true (hall _ hk)
  rw [manyFrom_mk, manyFrom_mk] at z
  have h0 := stair_lt IT.st.weak p hp
  have hl := le_last IT.st.weak p hp
  have mt := (many_iff T 0 p.1 (p.2 - p.1 + 1) IT.st IT.ne h0 hl).mpr (by
    rw [fo_at IT.st p hp]
    exact Int.le_refl _)
  have ms := many_le S 0 (p.2 - p.1 + 1) IS.st IS.ne
  have hls : p.1 ≤ lastSize S := by omega
  refine ⟨hls, ?_⟩
  have := (many_iff S 0 p.1 (p.2 - p.1 + 1) IS.st IS.ne h0 hls).mp (by omega)
  omega
theorem floors_within {S T : List P2} (IS : PInv S) (IT : PInv T) (h : ∀ y, 1 ≤ y → y ≤ lastSize T → y ≤ lastSize S ∧ fo T y ≤ fo S y) : isWithin (mk S) (mk T) = true := by
  refine List.all_eq_true.mpr fun k _ => decide_eq_true ?_
  rw [manyFrom_mk, manyFrom_mk]
  have nn := many_nonneg S 0 k IS.st
  by_cases c : many T 0 k ≤ 0
  · omega
  · have hl := many_le T 0 k IT.st IT.ne
    have hy := h (many T 0 k) (by omega) (by omega)
    have i1 := (many_iff T 0 (many T 0 k) k IT.st IT.ne (by omega) (by omega)).mp (by omega)
    have i2 := (many_iff S 0 (many T 0 k) k IS.st IS.ne (by omega) hy.1).mpr (by omega)
    omega

/-! ### the papers -/
def papersAt (size : Int) : List (List Int) := (([0, 1, 2, 3, 4, 5, 6, 7] : List Int).filter fun far => decide (0 < far)).map (fun far => size :: List.replicate 9 far) ++ [[size]]
def papers : List (List Int) := ([1, 2, 3, 4, 5, 6, 7, 8, 9] : List Int).flatMap papersAt
def allIn (a b : List Int) : Bool := a.all fun x => b.contains x
theorem allIn_iff {a b : List Int} : allIn a b = true ↔ ∀ x ∈ a, x ∈ b := by
  unfold allIn
  simp [List.all_eq_true]
theorem mem_papers1 {s : Int} (h1 : 1 ≤ s) (h9 : s ≤ 9) : [s] ∈ papers := by
  have : s = 1 ∨ s = 2 ∨ s = 3 ∨ s = 4 ∨ s = 5 ∨ s = 6 ∨ s = 7 ∨ s = 8 ∨ s = 9 := by omega
  rcases this with rfl | rfl | rfl | rfl | rfl | rfl | rfl | rfl | rfl <;> decide
theorem mem_papers2 {s f : Int} (h1 : 1 ≤ s) (h9 : s ≤ 9) (f1 : 1 ≤ f) (f7 : f ≤ 7) : (s :: List.replicate 9 f) ∈ papers := by
  refine List.mem_flatMap.mpr ⟨s, ?_, List.mem_append.mpr (.inl (List.mem_map.mpr ⟨f, ?_, rfl⟩))⟩
  · have : s = 1 ∨ s = 2 ∨ s = 3 ∨ s = 4 ∨ s = 5 ∨ s = 6 ∨ s = 7 ∨ s = 8 ∨ s = 9 := by omega
    rcases this with rfl | rfl | rfl | rfl | rfl | rfl | rfl | rfl | rfl <;> decide
  · have : f = 1 ∨ f = 2 ∨ f = 3 ∨ f = 4 ∨ f = 5 ∨ f = 6 ∨ f = 7 := by omega
    rcases this with rfl | rfl | rfl | rfl | rfl | rfl | rfl <;> decide
theorem papers_pos : ∀ p ∈ papers, PosTs p := by
  intro p hp
  obtain ⟨s, hs, hp⟩ := List.mem_flatMap.mp hp
  have s1 : 1 ≤ s := by
    simp only [List.mem_cons, List.not_mem_nil, or_false] at hs
    omega
  rcases List.mem_append.mp hp with hp | hp
  · obtain ⟨f, hf, rfl⟩ := List.mem_map.mp hp
    have f1 : 1 ≤ f := of_decide_eq_true (List.mem_filter.mp hf).2
    intro t ht
    rcases List.mem_cons.mp ht with rfl | ht
    · exact s1
    · rw [(List.mem_replicate.mp ht).2]
      exact f1
  · intro t ht
    rcases List.mem_cons.mp hp with rfl | hp
    · rcases List.mem_cons.mp ht with rfl | ht
      · exact s1
      · exact nomatch ht
    · exact nomatch hp
theorem rows_two {s f k : Int} (h1 : 1 ≤ s) (f1 : 1 ≤ f) (hk : k ≤ f) : s * 0 + 9 ≤ rowsFrom (s :: List.replicate 9 f) k := by
  have hp : PosTs (List.replicate 9 f) := fun t ht => by rw [(List.mem_replicate.mp ht).2]; exact f1
  have e : rowsFrom (List.replicate 9 f) k = 9 * f := by
    unfold rowsFrom
    rw [List.filter_eq_self.mpr fun t ht => by rw [(List.mem_replicate.mp ht).2]; simpa using hk]
    show f + (f + (f + (f + (f + (f + (f + (f + (f + 0)))))))) = 9 * f
    omega
  have e2 : rowsFrom (List.replicate 9 f) k ≤ rowsFrom (s :: List.replicate 9 f) k := by
    unfold rowsFrom
    by_cases c : k ≤ s
    · rw [List.filter_cons_of_pos (by simpa using c), List.sum_cons]
      omega
    · rw [List.filter_cons_of_neg (by simpa using c)]
      exact Int.le_refl _
  omega
theorem rows_self {s k : Int} {r : List Int} (hp : PosTs (s :: r)) (h : k ≤ s) : s ≤ rowsFrom (s :: r) k := le_rows hp List.mem_cons_self h
theorem rows_far {s f k : Int} (hk : f < k) (hs : 1 ≤ s) : rowsFrom (s :: List.replicate 9 f) k ≤ s := by
  have e : (List.replicate 9 f).filter (fun t => decide (k ≤ t)) = [] := List.filter_eq_nil_iff.mpr fun t ht => by
    rw [(List.mem_replicate.mp ht).2]
    simpa using hk
  unfold rowsFrom
  by_cases c : k ≤ s
  · rw [List.filter_cons_of_pos (by simpa using c), e]
    show s + 0 ≤ s
    omega
  · rw [List.filter_cons_of_neg (by simpa using c), e]
    show (0 : Int) ≤ s
    omega
theorem rows_one {s k : Int} (hs : 1 ≤ s) : rowsFrom [s] k ≤ s := by
  unfold rowsFrom
  by_cases c : k ≤ s
  · rw [List.filter_cons_of_pos (by simpa using c)]
    show s + 0 ≤ s
    omega
  · rw [List.filter_cons_of_neg (by simpa using c)]
    show (0 : Int) ≤ s
    omega

theorem mem_shows {fs : List P2} {ts : List Int} {t : Int} : t ∈ shows fs ts ↔ Asks fs ts ∧ t ∈ ts ∧ lastSize fs ≤ t := by
  unfold shows
  split
  · rename_i c
    rw [List.mem_filter]
    simp [c]
  · rename_i c
    simp [c]
theorem shows_of_within {S T : List P2} (IS : PInv S) (IT : PInv T) (h : isWithin (mk S) (mk T) = true) {ts : List Int} (hp : PosTs ts) : ∀ t ∈ shows S ts, t ∈ shows T ts := fun t ht => by
  obtain ⟨a, hm, hl⟩ := mem_shows.mp ht
  have w := within_floors IS IT h
  refine mem_shows.mpr ⟨fun p hq => ?_, hm, ?_⟩
  · obtain ⟨l1, l2⟩ := w p hq
    obtain ⟨z, hz, hy⟩ := fo_mem IS.st IS.ne l1
    have q1 : fo S p.1 ≤ rowsFrom ts z := a _ hz
    have := rows_mono hp hy
    omega
  · obtain ⟨r, hr⟩ := last_mem IT.ne
    have := (w _ hr).1
    show lastSize T ≤ t
    have e : (lastSize T, r).1 = lastSize T := rfl
    omega
theorem within_of_shows {S T : List P2} (IS : PInv S) (IT : PInv T) (h : ∀ ts ∈ papers, ∀ t ∈ shows S ts, t ∈ shows T ts) : isWithin (mk S) (mk T) = true := by
  have s1 := IS.one
  obtain ⟨rS, hrS⟩ := last_mem IS.ne
  have s7 : lastSize S ≤ 7 := by
    have := IS.lo _ hrS
    have := IS.hi _ hrS
    omega
  have hLL : lastSize T ≤ lastSize S := by
    have hm := mem_papers2 s1 (by omega) s1 s7
    have hp := papers_pos _ hm
    refine (mem_shows.mp (h _ hm (lastSize S) (mem_shows.mpr ⟨fun p hq => ?_, List.mem_cons_self, Int.le_refl _⟩))).2.2
    have := rows_two (k := p.1) s1 s1 (le_last IS.st.weak p hq)
    have := IS.hi p hq
    omega
  refine floors_within IS IT fun y y1 yT => ⟨by omega, ?_⟩
  have yS : y ≤ lastSize S := by omega
  obtain ⟨zS, hzS, hyS⟩ := fo_mem IS.st IS.ne yS
  obtain ⟨zT, hzT, hyT⟩ := fo_mem IT.st IT.ne yT
  have r7 := IS.hi _ hzS
  have rL := IS.lo _ hzS
  replace r7 : fo S y ≤ 7 := r7
  replace rL : lastSize S ≤ fo S y := rL
  refine Int.not_lt.mp fun hlt => ?_
  by_cases c : y = 1
  · subst c
    have hm := mem_papers1 (s := fo S 1) (by omega) (by omega)
    have hp := papers_pos _ hm
    have z := (mem_shows.mp (h _ hm (fo S 1) (mem_shows.mpr ⟨fun p hq => ?_, List.mem_cons_self, rL⟩))).1 _ hzT
    · have := rows_one (s := fo S 1) (k := zT) (by omega)
      replace z : fo T 1 ≤ rowsFrom [fo S 1] zT := z
      omega
    · have hle := le_last IS.st.weak p hq
      have := rows_self hp (k := p.1) (by omega)
      have := le_fo IS.st p hq (y := 1) (by have := stair_lt IS.st.weak p hq; omega)
      omega
  · have hm := mem_papers2 (s := fo S y) (f := y - 1) (by omega) (by omega) (by omega) (by omega)
    have hp := papers_pos _ hm
    have z := (mem_shows.mp (h _ hm (fo S y) (mem_shows.mpr ⟨fun p hq => ?_, List.mem_cons_self, rL⟩))).1 _ hzT
    · have := rows_far (s := fo S y) (f := y - 1) (k := zT) (by omega) (by omega)
      replace z : fo T y ≤ rowsFrom (fo S y :: List.replicate 9 (y - 1)) zT := z
      omega
    · have hle := le_last IS.st.weak p hq
      by_cases c2 : p.1 < y
      · have := rows_two (s := fo S y) (f := y - 1) (k := p.1) (by omega) (by omega) (by omega)
        have := IS.hi p hq
        omega
      · have := rows_self hp (k := p.1) (by omega)
        have := le_fo IS.st p hq (y := y) (by omega)
        omega

/-! ### what the law asks -/
/-- what a script leaves of all papers -/
def seen (ss : List (Bool × Int)) : List (List Int) := papers.map (left ss)
def seenIn (a b : List (Bool × Int)) : Bool := ((seen a).zip (seen b)).all fun z => allIn z.1 z.2
theorem seenIn_iff {a b : List (Bool × Int)} : seenIn a b = true ↔ ∀ p ∈ papers, ∀ t ∈ left a p, t ∈ left b p := by
  unfold seenIn seen
  rw [List.zip_map', List.all_map, List.all_eq_true]
  constructor
  · intro h p hp
    exact allIn_iff.mp (h p hp)
  · intro h p hp
    exact allIn_iff.mpr (h p hp)
theorem seenIn_within {a b : List (Bool × Int)} (ha : Small a) (hb : Small b) : seenIn a b = isWithin (formOf a) (formOf b) := by
  rw [Bool.eq_iff_iff, seenIn_iff, formOf_fl ha, formOf_fl hb]
  constructor
  · intro h
    refine within_of_shows (inv_fl ha) (inv_fl hb) fun ts hts => ?_
    have := h ts hts
    rw [left_eq ha (papers_pos _ hts), left_eq hb (papers_pos _ hts)] at this
    exact this
  · intro h p hp
    rw [left_eq ha (papers_pos _ hp), left_eq hb (papers_pos _ hp)]
    exact shows_of_within (inv_fl ha) (inv_fl hb) h (papers_pos _ hp)
theorem shows_filter (fs : List P2) (ts : List Int) : ts.filter (fun t => (shows fs ts).contains t) = shows fs ts := by
  by_cases c : Asks fs ts
  · have e : shows fs ts = ts.filter (fun t => decide (lastSize fs ≤ t)) := by
      unfold shows
      rw [if_pos c]
    rw [e]
    refine List.filter_congr fun t ht => ?_
    rw [Bool.eq_iff_iff]
    simp [ht]
  · have e : shows fs ts = [] := by
      unfold shows
      rw [if_neg c]
    rw [e]
    exact List.filter_eq_nil_iff.mpr fun t _ => by simp
theorem seen_eq {a b : List (Bool × Int)} (ha : Small a) (hb : Small b) (h1 : seenIn a b = true) (h2 : seenIn b a = true) : seen a = seen b := by
  refine List.map_congr_left fun p hp => ?_
  have i1 := seenIn_iff.mp h1 p hp
  have i2 := seenIn_iff.mp h2 p hp
  rw [left_eq ha (papers_pos _ hp), left_eq hb (papers_pos _ hp)] at i1 i2 ⊢
  rw [← shows_filter (fl a) p, ← shows_filter (fl b) p]
  refine List.filter_congr fun t _ => ?_
  rw [Bool.eq_iff_iff]
  simp only [List.contains_iff_mem]
  exact ⟨i1 t, i2 t⟩
end K98

/-! S1Base: data that stand in the part I of the heap that does not change (At), what a call may do beside it (Gr), what a reading evaluates to (EvD). -/
namespace K98
open PySem L2

/-- what stands: texts, numbers, tuples, lists, dicts, instances; any: nothing is said -/
inductive D where
  | non | bl (b : Bool) | int (i : Int) | str (x : Str)
  | tup (ds : List D) | lst (ds : List D) | dic (kds : List (Key × D)) | ins (C : Addr) (fs : List (Str × D)) | val (v : V) | any

mutual
inductive At (K : PySem.W.Frag) (I : Hp) : V → D → Prop
  | non : At K I .non .non
  | bl (b : Bool) : At K I (.bl b) (.bl b)
  | int (i : Int) : At K I (.int i) (.int i)
  | str (x : Str) : At K I (.str x) (.str x)
  | tup {a : Addr} {xs : List V} {ds : List D} : SqT K I a xs → AtL K I xs ds → At K I (.ref a) (.tup ds)
  | lst {a : Addr} {xs : List V} {ds : List D} : I a = some (.lst xs) → AtL K I xs ds → At K I (.ref a) (.lst ds)
  | dic {a : Addr} {kvs : List (Key × V)} {kds : List (Key × D)} : Rd I a (.dK kvs) → AtK K I kvs kds → At K I (.ref a) (.dic kds)
  | ins {a C dx : Addr} {fs : List (Str × V)} {ds : List (Str × D)} : I a = some (.ins C dx fs) → AtF K I fs ds → At K I (.ref a) (.ins C ds)
  | val (v : V) : At K I v (.val v)
  | any (v : V) : At K I v .any
inductive AtL (K : PySem.W.Frag) (I : Hp) : List V → List D → Prop
  | nil : AtL K I [] []
  | cons {v : V} {vs : List V} {d : D} {ds : List D} : At K I v d → AtL K I vs ds → AtL K I (v :: vs) (d :: ds)
inductive AtK (K : PySem.W.Frag) (I : Hp) : List (Key × V) → List (Key × D) → Prop
  | nil : AtK K I [] []
  | cons {k : Key} {v : V} {vs : List (Key × V)} {d : D} {ds : List (Key × D)} : At K I v d → AtK K I vs ds → AtK K I ((k, v) :: vs) ((k, d) :: ds)
inductive AtF (K : PySem.W.Frag) (I : Hp) : List (Str × V) → List (Str × D) → Prop
  | nil : AtF K I [] []
  | cons {k : Str} {v : V} {vs : List (Str × V)} {d : D} {ds : List (Str × D)} : At K I v d → AtF K I vs ds → AtF K I ((k, v) :: vs) ((k, d) :: ds)
end

/-- all that may be read in I may be read in I' -/
structure Le (I I' : Hp) : Prop where
  rd : ∀ a u, (∀ o w, u ≠ .frz o w) → Rd I a u → Rd I' a u
  ins : ∀ a C dx fs, I a = some (.ins C dx fs) → I' a = some (.ins C dx fs)
  lst : ∀ a xs, I a = some (.lst xs) → I' a = some (.lst xs)

section
variable {K : PySem.W.Frag} {I I' : Hp}
theorem Le.t {a : Addr} {xs : List V} (e : Le I I') (h : SqT K I a xs) : SqT K I' a xs := by
  rcases h with h | h
  · exact .inl (e.rd _ _ (fun _ _ z => nomatch z) h)
  · exact .inr h
theorem Le.l {a : Addr} {xs : List V} (e : Le I I') (h : SqL K I a xs) : SqL K I' a xs := by
  rcases h with h | h
  · exact .inl (e.rd _ _ (fun _ _ z => nomatch z) h)
  · exact .inr h
theorem Le.trans {I1 I2 I3 : Hp} (a : Le I1 I2) (b : Le I2 I3) : Le I1 I3 := ⟨fun x u nf h => b.rd x u nf (a.rd x u nf h), fun x C dx fs h => b.ins x C dx fs (a.ins x C dx fs h), fun x xs h => b.lst x xs (a.lst x xs h)⟩
mutual
theorem At.le (e : Le I I') : ∀ (d : D) {v : V}, At K I v d → At K I' v d
  | .non, v, h => by cases h; exact .non
  | .bl _, v, h => by cases h; exact .bl _
  | .int _, v, h => by cases h; exact .int _
  | .str _, v, h => by cases h; exact .str _
  | .tup ds, v, h => by
    cases h with
    | tup h1 h2 => exact .tup (e.t h1) (AtL.le e ds h2)
  | .lst ds, v, h => by
    cases h with
    | lst h1 h2 => exact .lst (e.lst _ _ h1) (AtL.le e ds h2)
  | .dic ds, v, h => by
    cases h with
    | dic h1 h2 => exact .dic (e.rd _ _ (fun _ _ z => nomatch z) h1) (AtK.le e ds h2)
  | .ins _ ds, v, h => by
    cases h with
    | ins h1 h2 => exact .ins (e.ins _ _ _ _ h1) (AtF.le e ds h2)
  | .val _, v, h => by cases h; exact .val _
  | .any, v, h => .any v
theorem AtL.le (e : Le I I') : ∀ (ds : List D) {vs : List V}, AtL K I vs ds → AtL K I' vs ds
  | [], vs, h => by cases h; exact .nil
  | d :: ds, vs, h => by
    cases h with
    | cons h1 h2 => exact .cons (At.le e d h1) (AtL.le e ds h2)
theorem AtK.le (e : Le I I') : ∀ (ds : List (Key × D)) {vs : List (Key × V)}, AtK K I vs ds → AtK K I' vs ds
  | [], vs, h => by cases h; exact .nil
  | (k, d) :: ds, vs, h => by
    cases h with
    | cons h1 h2 => exact .cons (At.le e d h1) (AtK.le e ds h2)
theorem AtF.le (e : Le I I') : ∀ (ds : List (Str × D)) {vs : List (Str × V)}, AtF K I vs ds → AtF K I' vs ds
  | [], vs, h => by cases h; exact .nil
  | (k, d) :: ds, vs, h => by
    cases h with
    | cons h1 h2 => exact .cons (At.le e d h1) (AtF.le e ds h2)
end
theorem AtL.length : ∀ {vs : List V} {ds : List D}, AtL K I vs ds → vs.length = ds.length
  | _, _, .nil => rfl
  | _, _, .cons _ t => congrArg (· + 1) t.length
theorem AtL.get : ∀ {vs : List V} {ds : List D} {i : Nat} {d : D}, AtL K I vs ds → ds[i]? = some d → ∃ v, vs[i]? = some v ∧ At K I v d
  | _, _, _, _, .nil, e => by simp at e
  | _, _, 0, _, .cons h _, e => by simp at e; subst e; exact ⟨_, rfl, h⟩
  | _, _, i + 1, d, .cons _ t, e => by
    obtain ⟨v, h1, h2⟩ := AtL.get (i := i) (d := d) t (by simpa using e)
    exact ⟨v, by simpa using h1, h2⟩
theorem AtL.one {vs : List V} {d : D} (h : AtL K I vs [d]) : ∃ v, vs = [v] ∧ At K I v d := by
  cases h with
  | cons a t =>
    cases t
    exact ⟨_, rfl, a⟩
theorem AtL.two {vs : List V} {d e : D} (h : AtL K I vs [d, e]) : ∃ v u, vs = [v, u] ∧ At K I v d ∧ At K I u e := by
  cases h with
  | cons a t =>
    obtain ⟨u, rfl, b⟩ := t.one
    exact ⟨_, u, rfl, a, b⟩
theorem AtL.three {vs : List V} {d e f : D} (h : AtL K I vs [d, e, f]) : ∃ v u w, vs = [v, u, w] ∧ At K I v d ∧ At K I u e ∧ At K I w f := by
  cases h with
  | cons a t =>
    obtain ⟨u, w, rfl, b, c⟩ := t.two
    exact ⟨_, u, w, rfl, a, b, c⟩
theorem AtL.append : ∀ {vs ws : List V} {ds es : List D}, AtL K I vs ds → AtL K I ws es → AtL K I (vs ++ ws) (ds ++ es)
  | _, _, _, _, .nil, s => s
  | _, _, _, _, .cons h t, s => .cons h (t.append s)
theorem AtL.snoc {vs : List V} {ds : List D} {v : V} {d : D} (h : AtL K I vs ds) (a : At K I v d) : AtL K I (vs ++ [v]) (ds ++ [d]) := h.append (.cons a .nil)
theorem AtL.take : ∀ {vs : List V} {ds : List D} (n : Nat), AtL K I vs ds → AtL K I (vs.take n) (ds.take n)
  | _, _, 0, _ => .nil
  | _, _, _ + 1, .nil => .nil
  | _, _, n + 1, .cons h t => .cons h (AtL.take n t)
theorem AtL.drop : ∀ {vs : List V} {ds : List D} (n : Nat), AtL K I vs ds → AtL K I (vs.drop n) (ds.drop n)
  | _, _, 0, h => h
  | _, _, _ + 1, .nil => .nil
  | _, _, n + 1, .cons _ t => AtL.drop n t
theorem AtL.reverse : ∀ {vs : List V} {ds : List D}, AtL K I vs ds → AtL K I vs.reverse ds.reverse
  | _, _, .nil => .nil
  | _, _, .cons h t => by
    rw [List.reverse_cons, List.reverse_cons]
    exact t.reverse.snoc h
theorem AtL.ints : ∀ (ns : List Int) {vs : List V}, AtL K I vs (ns.map D.int) → vs = ns.map V.int
  | [], vs, h => by cases h; rfl
  | n :: ns, vs, h => by
    cases h with
    | cons h1 h2 =>
      cases h1
      rw [AtL.ints ns h2]
      rfl
theorem AtL.bls : ∀ (ns : List Bool) {vs : List V}, AtL K I vs (ns.map D.bl) → vs = ns.map V.bl
  | [], vs, h => by cases h; rfl
  | n :: ns, vs, h => by
    cases h with
    | cons h1 h2 =>
      cases h1
      rw [AtL.bls ns h2]
      rfl
theorem AtL.strs : ∀ (ns : List Str) {vs : List V}, AtL K I vs (ns.map D.str) → vs = ns.map V.str
  | [], vs, h => by cases h; rfl
  | n :: ns, vs, h => by
    cases h with
    | cons h1 h2 =>
      cases h1
      rw [AtL.strs ns h2]
      rfl
theorem AtL.of_ints : ∀ (ns : List Int), AtL K I (ns.map V.int) (ns.map D.int)
  | [] => .nil
  | n :: ns => .cons (.int n) (AtL.of_ints ns)
theorem AtL.of_strs : ∀ (ns : List Str), AtL K I (ns.map V.str) (ns.map D.str)
  | [] => .nil
  | n :: ns => .cons (.str n) (AtL.of_strs ns)
theorem AtK.keys : ∀ {vs : List (Key × V)} {ds : List (Key × D)}, AtK K I vs ds → vs.map (·.1) = ds.map (·.1)
  | _, _, .nil => rfl
  | _, _, .cons _ t => by rw [List.map_cons, List.map_cons, t.keys]
theorem AtK.length {vs : List (Key × V)} {ds : List (Key × D)} (h : AtK K I vs ds) : vs.length = ds.length := by
  have := congrArg List.length h.keys
  rwa [List.length_map, List.length_map] at this
theorem AtF.look : ∀ {fs : List (Str × V)} {ds : List (Str × D)} {f : Str} {d : D}, AtF K I fs ds → ds.lookup f = some d → ∃ v, fs.lookup f = some v ∧ At K I v d
  | _, _, _, _, .nil, e => by simp at e
  | _, _, f, d, .cons (k := k) h t, e => by
    by_cases c : f = k
    · subst c
      rw [List.lookup_cons_self] at e
      cases e
      exact ⟨_, List.lookup_cons_self, h⟩
    · have c' : (f == k) = false := beq_eq_false_iff_ne.mpr c
      rw [List.lookup_cons, c'] at e
      obtain ⟨v, h1, h2⟩ := t.look e
      refine ⟨v, ?_, h2⟩
      rw [List.lookup_cons, c']
      exact h1
theorem AtF.look0 : ∀ {fs : List (Str × V)} {ds : List (Str × D)} {f : Str}, AtF K I fs ds → ds.lookup f = none → fs.lookup f = none
  | _, _, _, .nil, e => rfl
  | _, _, f, .cons (k := k) h t, e => by
    by_cases c : f = k
    · subst c
      rw [List.lookup_cons_self] at e
      cases e
    · have c' : (f == k) = false := beq_eq_false_iff_ne.mpr c
      rw [List.lookup_cons, c'] at e ⊢
      exact t.look0 e
end

/-- from (I, H) to (I', H'): what I knows stays, I' is known to H', what stood beside I stays beside (unless M) -/
structure Gr (M : List Addr) (I H I' H' : Hp) : Prop where
  ext : ∀ a o, I a = some o → I' a = some o
  sub : ∀ a o, I' a = some o → H' a = some o
  out : ∀ a o, I a = none → H a = some o → I' a = none
  keep : ∀ a o, I a = none → H a = some o → a ∉ M → H' a = some o
abbrev Sub (I H : Hp) : Prop := ∀ a o, I a = some o → H a = some o

section
variable {K : PySem.W.Frag} {M : List Addr} {I H I1 H1 I2 H2 : Hp}
theorem Gr.refl (h : Sub I H) : Gr M I H I H := ⟨fun _ _ x => x, h, fun _ _ x _ => x, fun _ _ _ x _ => x⟩
theorem Gr.trans (a : Gr M I H I1 H1) (b : Gr M I1 H1 I2 H2) (hm : ∀ m ∈ M, I m = none → ∃ o, H1 m = some o) : Gr M I H I2 H2 :=
  ⟨fun x o q => b.ext x o (a.ext x o q), b.sub, fun x o n q => by
    by_cases c : x ∈ M
    · obtain ⟨u, hu⟩ := hm x c n
      exact b.out x u (a.out x o n q) hu
    · exact b.out x o (a.out x o n q) (a.keep x o n q c), fun x o n q c => b.keep x o (a.out x o n q) (a.keep x o n q c) c⟩
theorem Gr.tr (a : Gr [] I H I1 H1) (b : Gr [] I1 H1 I2 H2) : Gr [] I H I2 H2 := a.trans b fun _ h => (nomatch h)
theorem Gr.le (a : Gr M I H I1 H1) : Le I I1 := ⟨fun x u _ h => by
  rcases h with h | ⟨o, h⟩
  · exact .inl (a.ext _ _ h)
  · exact .inr ⟨o, a.ext _ _ h⟩, fun _ _ _ _ h => a.ext _ _ h, fun _ _ h => a.ext _ _ h⟩
theorem Gr.any (a : Gr [] I H I1 H1) : Gr M I H I1 H1 := ⟨a.ext, a.sub, a.out, fun x o n q _ => a.keep x o n q (by simp)⟩
theorem At.gr {v : V} {d : D} (h : At K I v d) (a : Gr M I H I1 H1) : At K I1 v d := At.le a.le d h
theorem AtL.gr {v : List V} {d : List D} (h : AtL K I v d) (a : Gr M I H I1 H1) : AtL K I1 v d := AtL.le a.le d h
theorem AtK.gr {v : List (Key × V)} {d : List (Key × D)} (h : AtK K I v d) (a : Gr M I H I1 H1) : AtK K I1 v d := AtK.le a.le d h
theorem AtF.gr {v : List (Str × V)} {d : List (Str × D)} (h : AtF K I v d) (a : Gr M I H I1 H1) : AtF K I1 v d := AtF.le a.le d h
theorem sub_le (h : Sub I H) : Le I H := ⟨fun x u _ q => by
  rcases q with q | ⟨o, q⟩
  · exact .inl (h _ _ q)
  · exact .inr ⟨o, h _ _ q⟩, fun _ _ _ _ q => h _ _ q, fun _ _ q => h _ _ q⟩
theorem sub_free (h : Sub I H) {p : Addr} (n : H p = none) : I p = none := by
  cases q : I p with
  | none => rfl
  | some o =>
    rw [h p o q] at n
    cases n
theorem At.up {v : V} {d : D} (h : At K I v d) (s : Sub I H) : At K H v d := At.le (sub_le s) d h
/-- a new object, known from now on -/
theorem Gr.new {p : Addr} {o : HO} (s : Sub I H) (n : H p = none) : Gr M I H (upd I p o) (upd H p o) := by
  have ni := sub_free s n
  refine ⟨fun a u q => ?_, fun a u q => ?_, fun a u q r => ?_, fun a u q r _ => ?_⟩
  · rw [upd_ne (ne_of_none q ni)]
    exact q
  · by_cases c : a = p
    · subst c
      rw [upd_same] at q ⊢
      exact q
    · rw [upd_ne c] at q ⊢
      exact s a u q
  · rw [upd_ne (ne_of_none r n)]
    exact q
  · rw [upd_ne (ne_of_none r n)]
    exact r
/-- a new object beside I -/
theorem Gr.side {p : Addr} {o : HO} (s : Sub I H) (n : H p = none) : Gr M I H I (upd H p o) := by
  have ni := sub_free s n
  refine ⟨fun a u q => q, fun a u q => ?_, fun a u q r => q, fun a u q r _ => ?_⟩
  · rw [upd_ne (ne_of_none q ni)]
    exact s a u q
  · rw [upd_ne (ne_of_none r n)]
    exact r
/-- an object that was not there at the start, beside I1, changes -/
theorem Gr.mut {p : Addr} {o : HO} (g : Gr M I H I1 H1) (n : H p = none) (n1 : I1 p = none) : Gr M I H I1 (upd H1 p o) :=
  ⟨g.ext, fun a u q => by
    rw [upd_ne (ne_of_none q n1)]
    exact g.sub a u q, g.out, fun a u q r c => by
    rw [upd_ne (ne_of_none r n)]
    exact g.keep a u q r c⟩
/-- one of M, beside I1, changes -/
theorem Gr.mutM {p : Addr} {o : HO} (g : Gr M I H I1 H1) (hp : p ∈ M) (n1 : I1 p = none) : Gr M I H I1 (upd H1 p o) :=
  ⟨g.ext, fun a u q => by
    rw [upd_ne (ne_of_none q n1)]
    exact g.sub a u q, g.out, fun a u q r c => by
    rw [upd_ne (show a ≠ p from fun z => by subst z; exact c hp)]
    exact g.keep a u q r c⟩
/-- an object that was not there at the start is known from now on -/
theorem Gr.know {p : Addr} {o : HO} (g : Gr M I H I1 H1) (n : H p = none) (h1 : H1 p = some o) (n1 : I1 p = none) : Gr M I H (upd I1 p o) H1 :=
  ⟨fun a u q => by
    rw [upd_ne (ne_of_none (g.ext a u q) n1)]
    exact g.ext a u q, fun a u q => by
    by_cases c : a = p
    · subst c
      rw [upd_same] at q
      cases q
      exact h1
    · rw [upd_ne c] at q
      exact g.sub a u q, fun a u q r => by
    rw [upd_ne (ne_of_none r n)]
    exact g.out a u q r, g.keep⟩
theorem at_tup {p : Addr} {xs : List V} {ds : List D} (h : AtL K I xs ds) (n : I p = none) : At K (upd I p (.tup xs)) (.ref p) (.tup ds) := by
  have e : Le I (upd I p (.tup xs)) := ⟨fun a u _ q => by
    rcases q with q | ⟨o, q⟩
    · exact .inl (by rw [upd_ne (ne_of_none q n)]; exact q)
    · exact .inr ⟨o, by rw [upd_ne (ne_of_none q n)]; exact q⟩, fun a C dx fs q => by
    rw [upd_ne (ne_of_none q n)]
    exact q, fun a xs q => by
    rw [upd_ne (ne_of_none q n)]
    exact q⟩
  exact .tup (.of upd_same) (AtL.le e ds h)
theorem upd_le {p : Addr} {o : HO} (n : I p = none) : Le I (upd I p o) := ⟨fun a u _ q => by
    rcases q with q | ⟨o, q⟩
    · exact .inl (by rw [upd_ne (ne_of_none q n)]; exact q)
    · exact .inr ⟨o, by rw [upd_ne (ne_of_none q n)]; exact q⟩, fun a C dx fs q => by
    rw [upd_ne (ne_of_none q n)]
    exact q, fun a xs q => by
    rw [upd_ne (ne_of_none q n)]
    exact q⟩
theorem at_lst {p : Addr} {xs : List V} {ds : List D} (h : AtL K I xs ds) (n : I p = none) : At K (upd I p (.lst xs)) (.ref p) (.lst ds) := .lst upd_same (AtL.le (upd_le n) ds h)
end

/-! ### locking -/
section
variable {K : PySem.W.Frag} {I H I1 H1 I2 H2 : Hp} {a : Addr} {kvs : List (Key × V)} {od : Obj}
theorem lock_le (h : I a = some (.dK kvs)) : Le I (upd I a (.frz od (.dK kvs))) := by
  refine ⟨fun b v nf q => ?_, fun b C dx fs q => ?_, fun b xs q => ?_⟩
  · by_cases c : b = a
    · subst c
      rcases q with q | ⟨o, q⟩
      · rw [h] at q
        cases q
        exact .inr ⟨od, upd_same⟩
      · rw [h] at q
        cases q
    · rcases q with q | ⟨o, q⟩
      · exact .inl (by rw [upd_ne c]; exact q)
      · exact .inr ⟨o, by rw [upd_ne c]; exact q⟩
  · have c : b ≠ a := fun z => by
      rw [z, h] at q
      cases q
    rw [upd_ne c]
    exact q
  · have c : b ≠ a := fun z => by
      rw [z, h] at q
      cases q
    rw [upd_ne c]
    exact q
theorem unlock_le (h : I a = some (.frz od (.dK kvs))) : Le I (upd I a (.dK kvs)) := by
  refine ⟨fun b v nf q => ?_, fun b C dx fs q => ?_, fun b xs q => ?_⟩
  · by_cases c : b = a
    · subst c
      rcases q with q | ⟨o, q⟩
      · rw [h] at q
        cases q
        exact absurd rfl (nf _ _)
      · rw [h] at q
        cases q
        exact .inl upd_same
    · rcases q with q | ⟨o, q⟩
      · exact .inl (by rw [upd_ne c]; exact q)
      · exact .inr ⟨o, by rw [upd_ne c]; exact q⟩
  · have c : b ≠ a := fun z => by
      rw [z, h] at q
      cases q
    rw [upd_ne c]
    exact q
  · have c : b ≠ a := fun z => by
      rw [z, h] at q
      cases q
    rw [upd_ne c]
    exact q
theorem upd_sub {x : HO} (s : Sub I H) : Sub (upd I a x) (upd H a x) := fun b o q => by
  by_cases c : b = a
  · subst c
    rw [upd_same] at q ⊢
    exact q
  · rw [upd_ne c] at q ⊢
    exact s b o q
theorem Gr.lock {u f : HO} (h : I1 a = some u) (s : Sub I1 H1) (g : Gr [] (upd I1 a f) (upd H1 a f) I2 H2) : Gr [] I1 H1 (upd I2 a u) (upd H2 a u) ∧ I2 a = some f ∧ H2 a = some f := by
  have e1 : I2 a = some f := g.ext _ _ upd_same
  refine ⟨⟨fun b o q => ?_, upd_sub g.sub, fun b o n q => ?_, fun b o n q _ => ?_⟩, e1, g.sub _ _ e1⟩
  · by_cases c : b = a
    · subst c
      rw [h] at q
      cases q
      exact upd_same
    · rw [upd_ne c]
      exact g.ext b o (by rw [upd_ne c]; exact q)
  · have c : b ≠ a := fun z => by
      rw [z, h] at n
      cases n
    rw [upd_ne c]
    exact g.out b o (by rw [upd_ne c]; exact n) (by rw [upd_ne c]; exact q)
  · have c : b ≠ a := fun z => by
      rw [z, h] at n
      cases n
    rw [upd_ne c]
    exact g.keep b o (by rw [upd_ne c]; exact n) (by rw [upd_ne c]; exact q) (by simp)
end

/-! ### what a reading evaluates to -/
def EvD (K : PySem.W.Frag) (te : TE) (σ : L2.St) (I H : Hp) (d : D) : Prop := ∀ I1 H1, Gr [] I H I1 H1 → ∀ Q : VK, (∀ v I2 H2, Gr [] I1 H1 I2 H2 → At K I2 v d → Q v H2) → te σ H1 Q
def EvB (tt : TT) (σ : L2.St) (I H : Hp) (b : Bool) : Prop := ∀ I1 H1, Gr [] I H I1 H1 → ∀ Q : Bool → Hp → Prop, (∀ I2 H2, Gr [] I1 H1 I2 H2 → Q b H2) → tt σ H1 Q
def EvA (K : PySem.W.Frag) (ta : TA) (σ : L2.St) (I H : Hp) (ds : List D) : Prop := ∀ I1 H1, Gr [] I H I1 H1 → ∀ Q : List V → Hp → Prop, (∀ vs I2 H2, Gr [] I1 H1 I2 H2 → AtL K I2 vs ds → Q vs H2) → ta σ H1 Q
/-- a two-place operation, a one-place one, a call, on data -/
def RvD (K : PySem.W.Frag) (r : R2) (d e f : D) : Prop := ∀ x y I H, Sub I H → At K I x d → At K I y e → ∀ Q : VK, (∀ v I2 H2, Gr [] I H I2 H2 → At K I2 v f → Q v H2) → r x y H Q
def RuD (K : PySem.W.Frag) (r : V → Hp → VK → Prop) (d f : D) : Prop := ∀ x I H, Sub I H → At K I x d → ∀ Q : VK, (∀ v I2 H2, Gr [] I H I2 H2 → At K I2 v f → Q v H2) → r x H Q
def RcD (K : PySem.W.Frag) (r : List V → Hp → VK → Prop) (ds : List D) (f : D) : Prop := ∀ xs I H, Sub I H → AtL K I xs ds → ∀ Q : VK, (∀ v I2 H2, Gr [] I H I2 H2 → At K I2 v f → Q v H2) → r xs H Q
/-- an iterator that walks data -/
def Ext (I I' : Hp) : Prop := ∀ a o, I a = some o → I' a = some o
theorem Ext.le {I I' : Hp} (e : Ext I I') : Le I I' := ⟨fun a u _ q => by
  rcases q with q | ⟨o, q⟩
  · exact .inl (e _ _ q)
  · exact .inr ⟨o, e _ _ q⟩, fun _ _ _ _ q => e _ _ q, fun _ _ q => e _ _ q⟩
structure ItD (K : PySem.W.Frag) (J : It) (I0 : Hp) (ds : List D) : Prop where
  go : ∀ (i : Nat) d I H, Ext I0 I → Sub I H → ds[i]? = some d → J.go i H
  yld : ∀ (i : Nat) d I H x H', Ext I0 I → Sub I H → ds[i]? = some d → J.yld i H x H' → ∃ I', Gr [] I H I' H' ∧ At K I' x d
  stop : ∀ I H, Ext I0 I → Sub I H → J.stop ds.length H
def EvI (K : PySem.W.Frag) (wi : TI) (σ : L2.St) (I H : Hp) (ds : List D) : Prop := ∀ I1 H1, Gr [] I H I1 H1 → ∀ R : It → Hp → Prop, (∀ J I2 H2, Gr [] I1 H1 I2 H2 → ItD K J I2 ds → R J H2) → wi σ H1 R

section
variable {K : PySem.W.Frag} {σ : L2.St} {I H I' H' : Hp} {ta tb te tx : TE} {t u : TT} {d e f : D} {r : R2} {v : V}
theorem EvD.gr (g : Gr [] I H I' H') (h : EvD K te σ I H d) : EvD K te σ I' H' d := fun I1 H1 a Q q => h I1 H1 (g.tr a) Q q
theorem EvB.gr {b : Bool} (g : Gr [] I H I' H') (h : EvB t σ I H b) : EvB t σ I' H' b := fun I1 H1 a Q q => h I1 H1 (g.tr a) Q q
theorem EvA.gr {ta : TA} {ds : List D} (g : Gr [] I H I' H') (h : EvA K ta σ I H ds) : EvA K ta σ I' H' ds := fun I1 H1 a Q q => h I1 H1 (g.tr a) Q q
/-- run it -/
theorem EvD.run {Q : VK} (h : EvD K te σ I H d) (s : Sub I H) (q : ∀ v I2 H2, Gr [] I H I2 H2 → At K I2 v d → Q v H2) : te σ H Q := h I H (.refl s) Q q
theorem EvB.run {b : Bool} {Q : Bool → Hp → Prop} (h : EvB t σ I H b) (s : Sub I H) (q : ∀ I2 H2, Gr [] I H I2 H2 → Q b H2) : t σ H Q := h I H (.refl s) Q q
theorem EvD.is (h : EvD K te σ I H d) (x : d = e) : EvD K te σ I H e := x ▸ h
theorem EvB.is {b c : Bool} (h : EvB t σ I H b) (x : b = c) : EvB t σ I H c := x ▸ h
theorem ed_var {i : Nat} (h : σ[i]? = some (some v)) (a : At K I v d) : EvD K (tVar i) σ I H d := fun I1 H1 g Q q => ⟨v, h, q v I1 H1 (.refl g.sub) (a.gr g)⟩
theorem ed_c (a : At K I v d) : EvD K (tC v) σ I H d := fun I1 H1 g Q q => q v I1 H1 (.refl g.sub) (a.gr g)
theorem ed_int {i : Int} : EvD K (tC (.int i)) σ I H (.int i) := ed_c (.int i)
theorem ed_bl {i : Bool} : EvD K (tC (.bl i)) σ I H (.bl i) := ed_c (.bl i)
theorem ed_str {i : Str} : EvD K (tC (.str i)) σ I H (.str i) := ed_c (.str i)
theorem ed_non : EvD K (tC .non) σ I H .non := ed_c .non
theorem ed_op (ha : EvD K ta σ I H d) (hb : EvD K tb σ I H e) (hr : RvD K r d e f) : EvD K (tOp r ta tb) σ I H f := fun I1 H1 g Q q =>
  ha I1 H1 g _ fun x I2 H2 g2 a2 => hb I2 H2 (g.tr g2) _ fun y I3 H3 g3 a3 => hr x y I3 H3 g3.sub (a2.gr g3) a3 Q fun v I4 H4 g4 a4 => q v I4 H4 ((g2.tr g3).tr g4) a4
theorem ed_un {r : V → Hp → VK → Prop} (ha : EvD K ta σ I H d) (hr : RuD K r d f) : EvD K (tUn r ta) σ I H f := fun I1 H1 g Q q =>
  ha I1 H1 g _ fun x I2 H2 g2 a2 => hr x I2 H2 g2.sub a2 Q fun v I4 H4 g4 a4 => q v I4 H4 (g2.tr g4) a4
theorem rd_I0 {g : Int → Int → Int} {i j : Int} : RvD K (rI0 fun a b => .int (g a b)) (.int i) (.int j) (.int (g i j)) := fun x y I H s hx hy Q q => by
  cases hx
  cases hy
  exact ⟨i, j, rfl, rfl, q _ I H (.refl s) (.int _)⟩
theorem rd_B0 {g : Int → Int → Bool} {i j : Int} : RvD K (rI0 fun a b => .bl (g a b)) (.int i) (.int j) (.bl (g i j)) := fun x y I H s hx hy Q q => by
  cases hx
  cases hy
  exact ⟨i, j, rfl, rfl, q _ I H (.refl s) (.bl _)⟩
theorem rd_I {C : Int → Int → Prop} {g : Int → Int → Int} {i j : Int} (hc : C i j) : RvD K (rI C fun a b => .int (g a b)) (.int i) (.int j) (.int (g i j)) := fun x y I H s hx hy Q q => by
  cases hx
  cases hy
  exact ⟨i, j, rfl, rfl, hc, q _ I H (.refl s) (.int _)⟩
theorem rd_eqI {i j : Int} : RvD K rEq (.int i) (.int j) (.bl (decide (i = j))) := fun x y I H s hx hy Q q => by
  cases hx
  cases hy
  refine ⟨rfl, ?_⟩
  have e : decide (V.int i = V.int j) = decide (i = j) := by
    rw [dec_int]
    rfl
  rw [e]
  exact q _ I H (.refl s) (.bl _)
theorem rd_neI {i j : Int} : RvD K rNe (.int i) (.int j) (.bl (!decide (i = j))) := fun x y I H s hx hy Q q => by
  cases hx
  cases hy
  refine ⟨rfl, ?_⟩
  have e : decide (V.int i = V.int j) = decide (i = j) := by
    rw [dec_int]
    rfl
  rw [e]
  exact q _ I H (.refl s) (.bl _)
theorem rd_eqS {i j : Str} : RvD K rEq (.str i) (.str j) (.bl (decide (i = j))) := fun x y I H s hx hy Q q => by
  cases hx
  cases hy
  refine ⟨rfl, ?_⟩
  have e : decide (V.str i = V.str j) = decide (i = j) := by
    by_cases c : i = j
    · subst c
      rw [decide_eq_true rfl, decide_eq_true rfl]
    · rw [decide_eq_false c, decide_eq_false fun z => c (V.str.inj z)]
  rw [e]
  exact q _ I H (.refl s) (.bl _)
theorem rd_neS {i j : Str} : RvD K rNe (.str i) (.str j) (.bl (!decide (i = j))) := fun x y I H s hx hy Q q => by
  cases hx
  cases hy
  refine ⟨rfl, ?_⟩
  have e : decide (V.str i = V.str j) = decide (i = j) := by
    by_cases c : i = j
    · subst c
      rw [decide_eq_true rfl, decide_eq_true rfl]
    · rw [decide_eq_false c, decide_eq_false fun z => c (V.str.inj z)]
  rw [e]
  exact q _ I H (.refl s) (.bl _)
theorem eb_test {b : Bool} (h : EvD K te σ I H (.bl b)) : EvB (tTest te) σ I H b := fun I1 H1 g Q q => h I1 H1 g _ fun v I2 H2 g2 a => by
  cases a
  exact ⟨b, rfl, q I2 H2 g2⟩
theorem eb_B {b : Bool} (h : EvD K te σ I H (.bl b)) : EvB (tB te) σ I H b := fun I1 H1 g Q q => h I1 H1 g _ fun v I2 H2 g2 a => by
  cases a
  exact ⟨b, rfl, q I2 H2 g2⟩
theorem eb_and {a b : Bool} (h1 : EvB t σ I H a) (h2 : a = true → EvB u σ I H b) : EvB (tAnd t u) σ I H (a && b) := fun I1 H1 g Q q => h1 I1 H1 g _ fun I2 H2 g2 => by
  cases a with
  | true =>
    show u σ H2 Q
    exact h2 rfl I2 H2 (g.tr g2) Q fun I3 H3 g3 => q I3 H3 (g2.tr g3)
  | false =>
    show Q false H2
    exact q I2 H2 g2
theorem eb_or {a b : Bool} (h1 : EvB t σ I H a) (h2 : a = false → EvB u σ I H b) : EvB (tOr t u) σ I H (a || b) := fun I1 H1 g Q q => h1 I1 H1 g _ fun I2 H2 g2 => by
  cases a with
  | true =>
    show Q true H2
    exact q I2 H2 g2
  | false =>
    show u σ H2 Q
    exact h2 rfl I2 H2 (g.tr g2) Q fun I3 H3 g3 => q I3 H3 (g2.tr g3)
theorem eb_not {a : Bool} (h1 : EvB t σ I H a) : EvB (tNot t) σ I H (!a) := fun I1 H1 g Q q => h1 I1 H1 g _ fun I2 H2 g2 => q I2 H2 g2
theorem ed_notV {a : Bool} (h1 : EvD K ta σ I H (.bl a)) : EvD K (tNotV ta) σ I H (.bl (!a)) := fun I1 H1 g Q q => h1 I1 H1 g _ fun v I2 H2 g2 x => by
  cases x
  exact ⟨a, rfl, q _ I2 H2 g2 (.bl _)⟩
theorem ed_andV {a b : Bool} (h1 : EvD K ta σ I H (.bl a)) (h2 : a = true → EvD K tb σ I H (.bl b)) : EvD K (tAndV ta tb) σ I H (.bl (a && b)) := fun I1 H1 g Q q => h1 I1 H1 g _ fun v I2 H2 g2 x => by
  cases x
  refine ⟨a, rfl, ?_⟩
  cases a with
  | true =>
    show tb σ H2 Q
    exact h2 rfl I2 H2 (g.tr g2) Q fun v I3 H3 g3 y => q v I3 H3 (g2.tr g3) y
  | false =>
    show Q (.bl false) H2
    exact q _ I2 H2 g2 (.bl _)
theorem ed_orV {a b : Bool} (h1 : EvD K ta σ I H (.bl a)) (h2 : a = false → EvD K tb σ I H (.bl b)) : EvD K (tOrV ta tb) σ I H (.bl (a || b)) := fun I1 H1 g Q q => h1 I1 H1 g _ fun v I2 H2 g2 x => by
  cases x
  refine ⟨a, rfl, ?_⟩
  cases a with
  | true =>
    show Q (.bl true) H2
    exact q _ I2 H2 g2 (.bl _)
  | false =>
    show tb σ H2 Q
    exact h2 rfl I2 H2 (g.tr g2) Q fun v I3 H3 g3 y => q v I3 H3 (g2.tr g3) y
theorem ed_if {b : Bool} (h : EvB t σ I H b) (h1 : b = true → EvD K ta σ I H d) (h2 : b = false → EvD K tb σ I H d) : EvD K (tIf t ta tb) σ I H d := fun I1 H1 g Q q => h I1 H1 g _ fun I2 H2 g2 => by
  cases b with
  | true =>
    show ta σ H2 Q
    exact h1 rfl I2 H2 (g.tr g2) Q fun v I3 H3 g3 y => q v I3 H3 (g2.tr g3) y
  | false =>
    show tb σ H2 Q
    exact h2 rfl I2 H2 (g.tr g2) Q fun v I3 H3 g3 y => q v I3 H3 (g2.tr g3) y
theorem ea_nil : EvA K tNil σ I H [] := fun I1 H1 g Q q => q [] I1 H1 (.refl g.sub) .nil
theorem ea_cons {tr : TA} {ds : List D} (h : EvD K ta σ I H d) (hr : EvA K tr σ I H ds) : EvA K (tCons ta tr) σ I H (d :: ds) := fun I1 H1 g Q q =>
  h I1 H1 g _ fun v I2 H2 g2 a => hr I2 H2 (g.tr g2) _ fun vs I3 H3 g3 as => q _ I3 H3 (g2.tr g3) (.cons (a.gr g3) as)
theorem ed_tup {ta : TA} {ds : List D} (h : EvA K ta σ I H ds) (hl : ds.length ≤ 100000) : EvD K (tTup ta) σ I H (.tup ds) := fun I1 H1 g Q q =>
  h I1 H1 g _ fun vs I2 H2 g2 as => ⟨Nat.le_trans (by rw [as.length]; exact hl) (by decide), fun p hp => q _ (upd I2 p (.tup vs)) _ (g2.tr (.new g2.sub hp)) (at_tup as (sub_free g2.sub hp))⟩
theorem ed_lst {ta : TA} {ds : List D} (h : EvA K ta σ I H ds) (hl : ds.length ≤ 100000) : EvD K (tLst ta) σ I H (.lst ds) := fun I1 H1 g Q q =>
  h I1 H1 g _ fun vs I2 H2 g2 as => ⟨Nat.le_trans (by rw [as.length]; exact hl) (by decide), fun p hp => q _ (upd I2 p (.lst vs)) _ (g2.tr (.new g2.sub hp)) (at_lst as (sub_free g2.sub hp))⟩
theorem ed_cb {r : List V → Hp → VK → Prop} {ta : TA} {ds : List D} (h : EvA K ta σ I H ds) (hr : RcD K r ds f) : EvD K (tCB r ta) σ I H f := fun I1 H1 g Q q =>
  h I1 H1 g _ fun vs I2 H2 g2 as => hr vs I2 H2 g2.sub as Q fun v I3 H3 g3 a => q v I3 H3 (g2.tr g3) a
theorem ed_fld {a : TE} {C : Addr} {fs : List (Str × D)} {f : Str} (h : EvD K a σ I H (.ins C fs)) (c : Cls K C) (n : NoAttr K C f) (l : fs.lookup f = some d) : EvD K (tFld K a f) σ I H d := fun I1 H1 g Q q =>
  h I1 H1 g _ fun v I2 H2 g2 x => by
    cases x with
    | ins h1 h2 =>
      obtain ⟨y, l2, ay⟩ := h2.look l
      exact ⟨_, C, _, _, y, rfl, g2.sub _ _ h1, c, n, l2, q y I2 H2 g2 ay⟩

/-! ### iterators -/
theorem ei_list {tl : TE} {ds : List D} (h : EvD K tl σ I H (.lst ds)) : EvI K (iList K tl) σ I H ds := fun I1 H1 g R q =>
  h I1 H1 g _ fun v I2 H2 g2 x => by
    cases x with
    | lst h1 h2 =>
      refine ⟨_, rfl, ⟨_, .of (g2.sub _ _ h1)⟩, q _ I2 H2 g2 ⟨fun i d I3 H3 le s e => ?_, fun i d I3 H3 x H4 le s e y => ?_, fun I3 H3 le s => ?_⟩⟩
      · obtain ⟨w, hw, _⟩ := h2.get e
        exact ⟨_, w, .of (s _ _ (le _ _ h1)), hw⟩
      · obtain ⟨w, hw, aw⟩ := h2.get e
        obtain ⟨rfl, y2⟩ := y
        have z := y2 _ (.of (s _ _ (le _ _ h1)))
        rw [hw] at z
        cases z
        exact ⟨I3, .refl s, At.le le.le _ aw⟩
      · exact ⟨_, .of (s _ _ (le _ _ h1)), Nat.le_of_eq h2.length⟩
theorem ei_tup {tl : TE} {ds : List D} (h : EvD K tl σ I H (.tup ds)) : EvI K (iTup K tl) σ I H ds := fun I1 H1 g R q =>
  h I1 H1 g _ fun v I2 H2 g2 x => by
    cases x with
    | tup h1 h2 =>
      refine ⟨_, rfl, ⟨_, (sub_le g2.sub).t h1⟩, q _ I2 H2 g2 ⟨fun i d I3 H3 le s e => ?_, fun i d I3 H3 x H4 le s e y => ?_, fun I3 H3 le s => ?_⟩⟩
      · obtain ⟨w, hw, _⟩ := h2.get e
        exact ⟨_, w, (sub_le s).t (le.le.t h1), hw⟩
      · obtain ⟨w, hw, aw⟩ := h2.get e
        obtain ⟨rfl, y2⟩ := y
        have z := y2 _ ((sub_le s).t (le.le.t h1))
        rw [hw] at z
        cases z
        exact ⟨I3, .refl s, At.le le.le _ aw⟩
      · exact ⟨_, (sub_le s).t (le.le.t h1), Nat.le_of_eq h2.length⟩
theorem itr_D {lo : Int} {n : Nat} : ItD K (Itr lo n) I ((List.range n).map fun i : Nat => D.int (lo + (i : Int))) := by
  have get : ∀ {i : Nat} {d : D}, ((List.range n).map fun i : Nat => D.int (lo + (i : Int)))[i]? = some d → i < n ∧ d = .int (lo + (i : Int)) := fun {i d} e => by
    rw [List.getElem?_map] at e
    obtain ⟨k, hk, rfl⟩ := Option.map_eq_some_iff.mp e
    obtain ⟨hl, rfl⟩ := List.getElem?_eq_some_iff.mp hk
    rw [List.length_range] at hl
    refine ⟨hl, ?_⟩
    rw [List.getElem_range]
  refine ⟨fun i d I3 H3 le s e => (get e).1, fun i d I3 H3 x H4 le s e y => ?_, fun I3 H3 le s => ?_⟩
  · obtain ⟨rfl, rfl⟩ := y
    rw [(get e).2]
    exact ⟨I3, .refl s, .int _⟩
  · show n ≤ _
    rw [List.length_map, List.length_range]
    exact Nat.le_refl _
theorem ei_rng1 {ta : TA} {j : Int} (h : EvA K ta σ I H [.int j]) (b1 : -(2 ^ 62) ≤ j) (b2 : j < 2 ^ 62) : EvI K (iRng1 ta) σ I H ((List.range j.toNat).map fun i : Nat => D.int ((0 : Int) + (i : Int))) := fun I1 H1 g R q =>
  h I1 H1 g _ fun vs I2 H2 g2 as => by
    cases as with
    | cons a1 a2 =>
      cases a2
      cases a1
      exact ⟨j, rfl, b1, b2, q _ I2 H2 g2 itr_D⟩
theorem ei_rng2 {ta : TA} {i j : Int} (h : EvA K ta σ I H [.int i, .int j]) (b : -(2 ^ 62) ≤ i ∧ i < 2 ^ 62 ∧ -(2 ^ 62) ≤ j ∧ j < 2 ^ 62) : EvI K (iRng2 ta) σ I H ((List.range (j - i).toNat).map fun k : Nat => D.int (i + (k : Int))) := fun I1 H1 g R q =>
  h I1 H1 g _ fun vs I2 H2 g2 as => by
    cases as with
    | cons a1 a2 =>
      cases a2 with
      | cons a2 a3 =>
        cases a3
        cases a1
        cases a2
        exact ⟨i, j, rfl, b, q _ I2 H2 g2 itr_D⟩
theorem its_D {x : Str} : ItD K (Its x) I (x.cps.toList.map fun c => D.str ⟨#[c]⟩) := by
  have get : ∀ {i : Nat} {d : D}, (x.cps.toList.map fun c => D.str ⟨#[c]⟩)[i]? = some d → ∃ c, x.cps[i]? = some c ∧ d = .str ⟨#[c]⟩ := fun {i d} e => by
    rw [List.getElem?_map] at e
    obtain ⟨k, hk, rfl⟩ := Option.map_eq_some_iff.mp e
    refine ⟨k, ?_, rfl⟩
    rw [← Array.getElem?_toList]
    exact hk
  refine ⟨fun i d I3 H3 le s e => ?_, fun i d I3 H3 y H4 le s e z => ?_, fun I3 H3 le s => ?_⟩
  · obtain ⟨c, hc, _⟩ := get e
    obtain ⟨hl, _⟩ := Array.getElem?_eq_some_iff.mp hc
    exact hl
  · obtain ⟨rfl, c, hc, rfl⟩ := z
    obtain ⟨c', hc', rfl⟩ := get e
    rw [hc] at hc'
    cases hc'
    exact ⟨I3, .refl s, .str _⟩
  · show x.cps.size ≤ _
    rw [List.length_map]
    exact Nat.le_of_eq (by simp)
theorem ei_str {te : TE} {x : Str} (h : EvD K te σ I H (.str x)) : EvI K (iStr te) σ I H (x.cps.toList.map fun c => D.str ⟨#[c]⟩) := fun I1 H1 g R q =>
  h I1 H1 g _ fun v I2 H2 g2 a => by
    cases a
    exact ⟨x, rfl, q _ I2 H2 g2 its_D⟩

/-! ### comprehensions -/
/-- the target's binding: from an item that stands for d, slots that S says -/
def BindD (K : PySem.W.Frag) (g : TG) (σ : L2.St) (d : D) (S : L2.St → Hp → Prop) : Prop := ∀ x I H, Sub I H → At K I x d → ∀ Q : L2.St → Hp → Prop, (∀ σ2, S σ2 I → Q σ2 H) → g x σ H Q
theorem bd_name {j : Nat} : BindD K (gName j) σ d fun σ2 I => ∃ x, At K I x d ∧ σ2 = σ.set j (some x) := fun x I H s a Q q => q _ ⟨x, a, rfl⟩
theorem bd_pair {j k : Nat} {d e : D} : BindD K (gTup K 2 (gCons (gName j) (gCons (gName k) gNil))) σ (.tup [d, e]) fun σ2 I => ∃ x y, At K I x d ∧ At K I y e ∧ σ2 = (σ.set j (some x)).set k (some y) := fun x I H s a Q q => by
  cases a with
  | tup h1 h2 =>
    cases h2 with
    | cons a1 h2 =>
      cases h2 with
      | cons a2 h2 =>
        cases h2
        exact ⟨_, _, rfl, (sub_le s).t h1, rfl, _, _, rfl, _, _, rfl, rfl, q _ ⟨_, _, a1, a2, rfl⟩⟩
theorem at_map {α β : Type} {f : α → β} {xs : List α} {i : Nat} {d : β} (e : (xs.map f)[i]? = some d) : ∃ a, xs[i]? = some a ∧ a ∈ xs ∧ d = f a := by
  rw [List.getElem?_map] at e
  obtain ⟨a, ha, rfl⟩ := Option.map_eq_some_iff.mp e
  exact ⟨a, ha, List.mem_of_getElem? ha, rfl⟩
theorem take_succ {α : Type} {xs : List α} {i : Nat} {a : α} (h : xs[i]? = some a) : xs.take (i + 1) = xs.take i ++ [a] := by
  rw [List.take_add_one, h]
  rfl
theorem ed_lc {α : Type} {wi : TI} {g : TG} {tt : TT} {vs : List Nat} (xs : List α) (enc : α → D) (b : α → Bool) (f : α → D) (S : α → L2.St → Hp → Prop) (hw : EvI K wi σ I H (xs.map enc)) (hz : xs.length < 100000)
    (hg : ∀ a, BindD K g (wipe σ vs) (enc a) (S a))
    (hb : ∀ a ∈ xs, ∀ σ2 I1 H1, Gr [] I H I1 H1 → S a σ2 I1 → wipe σ2 vs = wipe σ vs ∧ EvB tt σ2 I1 H1 (b a) ∧ (b a = true → EvD K te σ2 I1 H1 (f a))) :
    EvD K (tLc wi g tt te vs) σ I H (.lst ((xs.filter b).map f)) := fun I1 H1 g1 Q q => by
  refine hw I1 H1 g1 _ fun J I2 H2 g2 it => fun Dl hD => ?_
  have g12 := g1.tr g2
  refine ⟨fun i m H' => m = xs.length - i ∧ i ≤ xs.length ∧ ∃ Ii ys, Gr [] I2 H2 Ii H' ∧ Ii Dl = none ∧ H' Dl = some (.lst ys) ∧ AtL K Ii ys (((xs.take i).filter b).map f), ⟨xs.length, by simp, Nat.zero_le _, I2, [], .side g2.sub hD, sub_free g2.sub hD, upd_same, .nil⟩, ?_⟩
  rintro i m H3 ⟨rfl, hi, I3, ys, g3, n3, h3, a3⟩
  by_cases hlt : i < xs.length
  · obtain ⟨a, ha⟩ : ∃ a, xs[i]? = some a := ⟨xs[i], by simp [hlt]⟩
    have hm : (xs.map enc)[i]? = some (enc a) := by rw [List.getElem?_map, ha]; rfl
    refine .inr ⟨it.go i _ I3 H3 g3.ext g3.sub hm, fun H' => ∃ Ii ys, Gr [] I2 H2 Ii H' ∧ Ii Dl = none ∧ H' Dl = some (.lst ys) ∧ AtL K Ii ys (((xs.take (i + 1)).filter b).map f), fun H' ⟨Ii, ys', z⟩ => ⟨xs.length - (i + 1), by omega, rfl, hlt, Ii, ys', z⟩, fun x H4 y => ?_⟩
    obtain ⟨I4, g4, a4⟩ := it.yld i _ I3 H3 x H4 g3.ext g3.sub hm y
    have g34 := g3.tr g4
    refine hg a x I4 H4 g4.sub a4 _ fun σ2 hS => ?_
    obtain ⟨w2, eb, ee⟩ := hb a (List.mem_of_getElem? ha) σ2 I4 H4 (g12.tr g34) hS
    refine ⟨w2, eb I4 H4 (.refl g4.sub) _ fun I5 H5 g5 => ?_⟩
    have n5 : I5 Dl = none := g5.out _ _ (g4.out _ _ n3 h3) (g4.keep _ _ n3 h3 (by simp))
    have h5 : H5 Dl = some (.lst ys) := g5.keep _ _ (g4.out _ _ n3 h3) (g4.keep _ _ n3 h3 (by simp)) (by simp)
    have a5 := (a3.gr g4).gr g5
    cases hba : b a with
    | true =>
      rw [if_pos rfl]
      refine (ee hba).gr g5 I5 H5 (.refl g5.sub) _ fun v I6 H6 g6 a6 => ?_
      have h6 := g6.keep _ _ n5 h5 (by simp)
      have n6 := g6.out _ _ n5 h5
      refine ⟨ys, h6, ?_, I6, ys ++ [v], ((g34.tr g5).tr g6).mut hD n6, n6, upd_same, ?_⟩
      · rw [(a5.gr g6).length, List.length_map]
        refine Nat.lt_of_le_of_lt (List.length_filter_le _ _) (Nat.lt_of_le_of_lt (List.length_take_le _ _) (Nat.lt_of_lt_of_le (Nat.lt_trans hlt hz) (by decide)))
      · rw [take_succ ha, List.filter_append, List.map_append, List.filter_cons_of_pos hba]
        exact (a5.gr g6).snoc a6
    | false =>
      rw [if_neg Bool.false_ne_true]
      refine ⟨I5, ys, g34.tr g5, n5, h5, ?_⟩
      rw [take_succ ha, List.filter_append, List.map_append, List.filter_cons_of_neg (by rw [hba]; decide)]
      show AtL K I5 ys (((xs.take i).filter b).map f ++ [])
      rw [List.append_nil]
      exact a5
  · have e : i = xs.length := by omega
    subst e
    rw [List.take_length] at a3
    refine .inl ⟨?_, q _ (upd I3 Dl (.lst ys)) H3 ((g2.tr g3).know ?_ h3 n3) (at_lst a3 n3)⟩
    · have z := it.stop I3 H3 g3.ext g3.sub
      rw [List.length_map] at z
      exact z
    · cases q1 : H1 Dl with
      | none => rfl
      | some o =>
        exfalso
        cases q2 : I1 Dl with
        | some u =>
          have := g2.sub _ _ (g2.ext _ _ q2)
          rw [hD] at this
          cases this
        | none =>
          have := g2.keep _ _ q2 q1 (by simp)
          rw [hD] at this
          cases this
end
end K98

/-! S4Txt (printed by gen_txt.py): the facts of the text by names. -/
namespace K98
open PySem PySem.Spec PyProof.Rows L2
/-- what the top has left -/
structure Txt (K : PySem.W.Frag) (mg : Str → Option Value) : Prop where
  e : obsK K = valK
  mgs : ∀ x v, PySem.W.nsIn K mainGlobals x = some (some v) → mg x = some v
  mgn : ∀ x, PySem.W.nsIn K mainGlobals x = some none → mg x = none
section
variable {K : PySem.W.Frag} {mg : Str → Option Value}
theorem Txt.both (T : Txt K mg) : exB K = true ∧ fnB K = true := He.ba (show (exB K && fnB K) = true from congrArg (fun z : He.AlD => z.1) T.e)
/-- the tests, each by itself -/
structure Parts (K : PySem.W.Frag) : Prop where
  glo : gloL.all (gloB K) = true
  str : strL.all (strB K) = true
  fre : freL.all (freB K) = true
  cls : ([415, 538, 756, 1051] : List Addr).all (clsB K) = true
  mkr : mkrL.all (mkrB K) = true
  noa : noaL.all (noaB K) = true
  met : metL.all (metB K) = true
  pro : proL.all (proB K) = true
  sta : staL.all (staB K) = true
  rea : ([538, 756] : List Addr).all (readB K) = true
  isi : ([538, 756] : List Addr).all (isiB K) = true
  odd : oddB K = true
  tup : tupsB K = true
theorem Txt.parts (T : Txt K mg) : Parts K := by
  have h := T.both.1
  unfold exB at h
  obtain ⟨h1, h⟩ := He.ba h
  obtain ⟨h2, h⟩ := He.ba h
  obtain ⟨h3, h⟩ := He.ba h
  obtain ⟨h4, h⟩ := He.ba h
  obtain ⟨h5, h⟩ := He.ba h
  obtain ⟨h6, h⟩ := He.ba h
  obtain ⟨h7, h⟩ := He.ba h
  obtain ⟨h8, h⟩ := He.ba h
  obtain ⟨h9, h⟩ := He.ba h
  obtain ⟨h10, h⟩ := He.ba h
  obtain ⟨h11, h⟩ := He.ba h
  obtain ⟨h12, h13⟩ := He.ba h
  exact ⟨h1, h2, h3, h4, h5, h6, h7, h8, h9, h10, h11, h12, h13⟩
theorem all_ix {α : Type} {l : List α} {f : α → Bool} (h : l.all f = true) (i : Nat) {a : α} (e : l[i]? = some a) : f a = true := List.all_eq_true.mp h a (List.mem_of_getElem? e)
theorem Txt.glo (T : Txt K mg) (i : Nat) {x : Str} {a : Addr} (h : gloL[i]? = some (x, a)) : mg x = some (.ref a) := T.mgs _ _ (He.eqO_ok (all_ix T.parts.glo i h))
theorem Txt.fre (T : Txt K mg) (i : Nat) {x : Str} (h : freL[i]? = some x) : mg x = none := T.mgn _ (He.eqO_ok (all_ix T.parts.fre i h))
theorem Txt.str (T : Txt K mg) (i : Nat) {x z : Str} (h : strL[i]? = some (x, z)) : ∃ t, mg x = some (.str z t) := by
  have c := all_ix T.parts.str i h
  unfold strB at c
  cases e : PySem.W.nsIn K mainGlobals x with
  | none =>
    rw [e] at c
    cases c
  | some r =>
    rw [e] at c
    cases r with
    | none => cases c
    | some v =>
      cases v with
      | str y t =>
        have ey : y = z := of_decide_eq_true c
        rw [ey] at e
        exact ⟨t, T.mgs _ _ e⟩
      | _ => cases c
theorem Txt.cls (T : Txt K mg) (i : Nat) {C : Addr} (h : ([415, 538, 756, 1051] : List Addr)[i]? = some C) : Cls K C := by
  have c := all_ix T.parts.cls i h
  unfold clsB at c
  obtain ⟨c1, c⟩ := He.ba c
  obtain ⟨c2, c⟩ := He.ba c
  obtain ⟨c3, c4⟩ := He.ba c
  exact ⟨c1, c2, c3, He.eqO_ok c4⟩
theorem Txt.mkr (T : Txt K mg) (i : Nat) {C f : Addr} (h : mkrL[i]? = some (C, f)) : Mk K C f := by
  have c := all_ix T.parts.mkr i h
  unfold mkrB at c
  obtain ⟨c1, c⟩ := He.ba c
  obtain ⟨c2, c⟩ := He.ba c
  obtain ⟨c3, c4⟩ := He.ba c
  exact ⟨c1, He.eqO_ok c2, c3, c4⟩
theorem Txt.noa (T : Txt K mg) (i : Nat) {C : Addr} {f : Str} (h : noaL[i]? = some (C, f)) : NoAttr K C f := He.eqO_ok (all_ix T.parts.noa i h)
theorem Txt.met (T : Txt K mg) (i : Nat) {C : Addr} {m : Str} {f : Addr} (h : metL[i]? = some (C, m, f)) : Meth K C m f ∧ PySem.W.fnIn K f = true := by
  have c := all_ix T.parts.met i h
  unfold metB at c
  obtain ⟨c1, c⟩ := He.ba c
  obtain ⟨c2, c⟩ := He.ba c
  obtain ⟨c3, c4⟩ := He.ba c
  exact ⟨⟨He.eqO_ok c1, c2, c3⟩, c4⟩
theorem rec_of {K : PySem.W.Frag} {p g : Addr} {T : String} (h : (match PySem.W.recIn K p T with
    | some (.ref q :: _) => decide (q = g)
    | _ => false) = true) : ∃ rest, PySem.W.recIn K p T = some (.ref g :: rest) := by
  split at h
  · rename_i q r e
    rw [of_decide_eq_true h] at e
    exact ⟨r, e⟩
  · cases h
theorem Txt.pro (T : Txt K mg) (i : Nat) {C : Addr} {m : Str} {p g : Addr} (h : proL[i]? = some (C, m, p, g)) : PropOf K C m p g := by
  have c := all_ix T.parts.pro i h
  unfold proB at c
  obtain ⟨c1, c⟩ := He.ba c
  obtain ⟨c2, c⟩ := He.ba c
  obtain ⟨c3, c4⟩ := He.ba c
  exact ⟨He.eqO_ok c1, He.eqO_ok c2, of_decide_eq_true c3, rec_of c4⟩
/-- a staticmethod of a class, read off the class -/
structure StaOf (K : PySem.W.Frag) (C : Addr) (m : Str) (p g : Addr) : Prop where
  at_ : PySem.W.findCls K (.ref C) (.type "type") m = some (.get (.builtin "staticmethod.__get__") (.ref p) .none (.ref C))
  rec_ : ∃ rest, PySem.W.recIn K p "staticmethod" = some (.ref g :: rest)
theorem Txt.sta (T : Txt K mg) (i : Nat) {C : Addr} {m : Str} {p g : Addr} (h : staL[i]? = some (C, m, p, g)) : StaOf K C m p g := by
  have c := all_ix T.parts.sta i h
  unfold staB at c
  obtain ⟨c1, c2⟩ := He.ba c
  refine ⟨?_, rec_of c2⟩
  clear c2
  split at c1
  · rename_i g' q D e
    obtain ⟨k1, k⟩ := He.ba c1
    obtain ⟨k2, k3⟩ := He.ba k
    have k1 := of_decide_eq_true k1
    have k2 := of_decide_eq_true k2
    have k3 := of_decide_eq_true k3
    rw [e, k1, k2, k3]
  · cases c1
theorem Txt.rea (T : Txt K mg) (i : Nat) {C : Addr} (h : ([538, 756] : List Addr)[i]? = some C) : ClX.CRead K C (.type "type") := by
  have c := all_ix T.parts.rea i h
  unfold readB at c
  obtain ⟨c1, c2⟩ := He.ba c
  exact ⟨c1, He.eqO_ok c2⟩
theorem Txt.tyOf (T : Txt K mg) (i : Nat) {C : Addr} (h : ([538, 756] : List Addr)[i]? = some C) (cl : Cls K C) {H : Hp} {a dx : Addr} {fs : List (Str × V)} (e : H a = some (.ins C dx fs)) : TyOf K H (.ref a) (.ref C) := by
  have c := all_ix T.parts.isi i h
  unfold isiB at c
  obtain ⟨c1, c2⟩ := He.ba c
  have o := T.parts.odd
  unfold oddB at o
  obtain ⟨o1, o⟩ := He.ba o
  obtain ⟨o2, _⟩ := He.ba o
  exact .ins e cl (He.eqO_ok c1) (He.eqO_ok o1) (of_decide_eq_true o2) (of_decide_eq_true c2)
theorem Txt.odd3 (T : Txt K mg) : PySem.W.kitOne K (.ref 756) (.ref 538) = some false ∧ PySem.W.noSeq K 1051 = true ∧ PySem.W.selfFirst K 756 = true := by
  have o := T.parts.odd
  unfold oddB at o
  obtain ⟨_, o⟩ := He.ba o
  obtain ⟨_, o⟩ := He.ba o
  obtain ⟨o3, o⟩ := He.ba o
  obtain ⟨o4, o5⟩ := He.ba o
  exact ⟨of_decide_eq_true o3, o4, o5⟩
theorem tupB_ok {K : PySem.W.Frag} {a : Addr} {vs : List V} (h : tupB K a vs = true) (H : Hp) : SqT K H a vs := by
  unfold tupB at h
  cases q : K.lookup a with
  | none =>
    rw [q] at h
    cases h
  | some o =>
    obtain ⟨oc, od, dt, osl⟩ := o
    rw [q] at h
    cases oc with
    | type c =>
      cases dt with
      | seq its n =>
        obtain ⟨h1, h2⟩ := He.ba (show (decide (c = "tuple") && (decide (its.size ≤ sizeLine) && He.relAll vs its.toList)) = true from h)
        obtain ⟨h3, h4⟩ := He.ba h2
        exact .inr ⟨_, its, n, q, congrArg Value.type (of_decide_eq_true h1), rfl, of_decide_eq_true h3, He.relAll_ok h4⟩
      | _ => cases h
    | _ => cases dt <;> cases h
theorem Txt.tups (T : Txt K mg) (H : Hp) : SqT K H 473 [.str "town", .str "county"] ∧ SqT K H 544 [.ref 543] ∧ SqT K H 543 [.int 1, .int 1] ∧ SqT K H 308 [] ∧ SqT K H 602 [] := by
  have o := T.parts.tup
  unfold tupsB at o
  obtain ⟨o1, o⟩ := He.ba o
  obtain ⟨o2, o⟩ := He.ba o
  obtain ⟨o3, o⟩ := He.ba o
  obtain ⟨o4, o5⟩ := He.ba o
  exact ⟨tupB_ok o1 H, tupB_ok o2 H, tupB_ok o3 H, tupB_ok o4 H, tupB_ok o5 H⟩
theorem Txt.fn (T : Txt K mg) (i : Nat) {d : He5.DefA} (h : fnL[i]? = some d) : ∃ fd, FunD K d.name d.qual d.params d.body d.scope (d.dvs K) (d.kws K) (d.at_ K) fd := by
  have e : fnL.map (fun d => He5.fnA K (d.at_ K)) = fnL.map He5.DefA.val := congrArg (fun z : He.AlD => z.2) T.e
  have e2 : (fnL.map fun d => He5.fnA K (d.at_ K))[i]? = (fnL.map He5.DefA.val)[i]? := by rw [e]
  rw [List.getElem?_map, List.getElem?_map, h] at e2
  exact He5.DefA.funD (Option.some.inj e2) (all_ix T.both.2 i h)
/-! ### by names -/
theorem Txt.g_number_in (T : Txt K mg) : mg "number_in" = some (.ref 38) := T.glo 0 rfl
theorem Txt.g_summed (T : Txt K mg) : mg "summed" = some (.ref 278) := T.glo 1 rfl
theorem Txt.g_many_from (T : Txt K mg) : mg "many_from" = some (.ref 429) := T.glo 2 rfl
theorem Txt.g_places_of (T : Txt K mg) : mg "places_of" = some (.ref 439) := T.glo 3 rfl
theorem Txt.g_is_within (T : Txt K mg) : mg "is_within" = some (.ref 451) := T.glo 4 rfl
theorem Txt.g_least_in (T : Txt K mg) : mg "least_in" = some (.ref 549) := T.glo 5 rfl
theorem Txt.g_floors_in (T : Txt K mg) : mg "floors_in" = some (.ref 556) := T.glo 6 rfl
theorem Txt.g_form_with (T : Txt K mg) : mg "form_with" = some (.ref 561) := T.glo 7 rfl
theorem Txt.g_form_of_step (T : Txt K mg) : mg "form_of_step" = some (.ref 568) := T.glo 8 rfl
theorem Txt.g_form_behind (T : Txt K mg) : mg "form_behind" = some (.ref 573) := T.glo 9 rfl
theorem Txt.g_form_of_steps (T : Txt K mg) : mg "form_of_steps" = some (.ref 594) := T.glo 10 rfl
theorem Txt.g_law_box (T : Txt K mg) : mg "_law_box" = some (.ref 1062) := T.glo 11 rfl
theorem Txt.g_law_take (T : Txt K mg) : mg "_law_take" = some (.ref 1069) := T.glo 12 rfl
theorem Txt.g_law_cells (T : Txt K mg) : mg "_law_cells" = some (.ref 1076) := T.glo 13 rfl
theorem Txt.g_law_of (T : Txt K mg) : mg "_law_of" = some (.ref 1083) := T.glo 14 rfl
theorem Txt.g_law_same (T : Txt K mg) : mg "_law_same" = some (.ref 1088) := T.glo 15 rfl
theorem Txt.g_law_stride (T : Txt K mg) : mg "_law_stride" = some (.ref 1095) := T.glo 16 rfl
theorem Txt.g_law_line (T : Txt K mg) : mg "_law_line" = some (.ref 1100) := T.glo 17 rfl
theorem Txt.g_law_host (T : Txt K mg) : mg "_law_host" = some (.ref 1105) := T.glo 18 rfl
theorem Txt.g_law_left (T : Txt K mg) : mg "_law_left" = some (.ref 1110) := T.glo 19 rfl
theorem Txt.g_law_by_hand_right (T : Txt K mg) : mg "_law_by_hand_right" = some (.ref 1117) := T.glo 20 rfl
theorem Txt.g_law_papers (T : Txt K mg) : mg "_law_papers" = some (.ref 1122) := T.glo 21 rfl
theorem Txt.g_law_all_in (T : Txt K mg) : mg "_law_all_in" = some (.ref 1127) := T.glo 22 rfl
theorem Txt.g_law_right (T : Txt K mg) : mg "_law_right" = some (.ref 1132) := T.glo 23 rfl
theorem Txt.g_law (T : Txt K mg) : mg "law" = some (.ref 1137) := T.glo 24 rfl
theorem Txt.g_County (T : Txt K mg) : mg "County" = some (.ref 415) := T.glo 25 rfl
theorem Txt.g_Step (T : Txt K mg) : mg "Step" = some (.ref 538) := T.glo 26 rfl
theorem Txt.g_Script (T : Txt K mg) : mg "Script" = some (.ref 756) := T.glo 27 rfl
theorem Txt.g_Board (T : Txt K mg) : mg "Board" = some (.ref 1051) := T.glo 28 rfl
theorem Txt.g_KINDS (T : Txt K mg) : mg "KINDS" = some (.ref 473) := T.glo 29 rfl
theorem Txt.g_START (T : Txt K mg) : mg "START" = some (.ref 544) := T.glo 30 rfl
theorem Txt.z_len (T : Txt K mg) : mg "len" = none := T.fre 0 rfl
theorem Txt.z_sum (T : Txt K mg) : mg "sum" = none := T.fre 1 rfl
theorem Txt.z_any (T : Txt K mg) : mg "any" = none := T.fre 2 rfl
theorem Txt.z_all (T : Txt K mg) : mg "all" = none := T.fre 3 rfl
theorem Txt.z_sorted (T : Txt K mg) : mg "sorted" = none := T.fre 4 rfl
theorem Txt.z_set (T : Txt K mg) : mg "set" = none := T.fre 5 rfl
theorem Txt.z_tuple (T : Txt K mg) : mg "tuple" = none := T.fre 6 rfl
theorem Txt.z_list (T : Txt K mg) : mg "list" = none := T.fre 7 rfl
theorem Txt.z_dict (T : Txt K mg) : mg "dict" = none := T.fre 8 rfl
theorem Txt.z_int (T : Txt K mg) : mg "int" = none := T.fre 9 rfl
theorem Txt.z_abs (T : Txt K mg) : mg "abs" = none := T.fre 10 rfl
theorem Txt.z_max (T : Txt K mg) : mg "max" = none := T.fre 11 rfl
theorem Txt.z_range (T : Txt K mg) : mg "range" = none := T.fre 12 rfl
theorem Txt.z_enumerate (T : Txt K mg) : mg "enumerate" = none := T.fre 13 rfl
theorem Txt.z_zip (T : Txt K mg) : mg "zip" = none := T.fre 14 rfl
theorem Txt.z_isinstance (T : Txt K mg) : mg "isinstance" = none := T.fre 15 rfl
theorem Txt.z_bool (T : Txt K mg) : mg "bool" = none := T.fre 16 rfl
theorem Txt.z_str (T : Txt K mg) : mg "str" = none := T.fre 17 rfl
theorem Txt.s_NOTHING (T : Txt K mg) : ∃ t, mg "NOTHING" = some (.str "-" t) := T.str 0 rfl
theorem Txt.s_TOWN (T : Txt K mg) : ∃ t, mg "TOWN" = some (.str "town" t) := T.str 1 rfl
theorem Txt.s_COUNTY (T : Txt K mg) : ∃ t, mg "COUNTY" = some (.str "county" t) := T.str 2 rfl
theorem Txt.s_BETWEEN (T : Txt K mg) : ∃ t, mg "BETWEEN" = some (.str "; " t) := T.str 3 rfl
theorem Txt.c_County (T : Txt K mg) : Cls K 415 := T.cls 0 rfl
theorem Txt.k_County (T : Txt K mg) : Mk K 415 316 := T.mkr 0 rfl
theorem Txt.c_Step (T : Txt K mg) : Cls K 538 := T.cls 1 rfl
theorem Txt.k_Step (T : Txt K mg) : Mk K 538 487 := T.mkr 1 rfl
theorem Txt.c_Script (T : Txt K mg) : Cls K 756 := T.cls 2 rfl
theorem Txt.k_Script (T : Txt K mg) : Mk K 756 610 := T.mkr 2 rfl
theorem Txt.c_Board (T : Txt K mg) : Cls K 1051 := T.cls 3 rfl
theorem Txt.k_Board (T : Txt K mg) : Mk K 1051 793 := T.mkr 3 rfl
theorem Txt.n_own_runs (T : Txt K mg) : NoAttr K 415 "own_runs" := T.noa 0 rfl
theorem Txt.n_own_kind (T : Txt K mg) : NoAttr K 538 "own_kind" := T.noa 1 rfl
theorem Txt.n_own_least (T : Txt K mg) : NoAttr K 538 "own_least" := T.noa 2 rfl
theorem Txt.n_own_steps (T : Txt K mg) : NoAttr K 756 "own_steps" := T.noa 3 rfl
theorem Txt.n_own_form (T : Txt K mg) : NoAttr K 756 "own_form" := T.noa 4 rfl
theorem Txt.n_own_book (T : Txt K mg) : NoAttr K 1051 "own_book" := T.noa 5 rfl
theorem Txt.n_own_house (T : Txt K mg) : NoAttr K 1051 "own_house" := T.noa 6 rfl
theorem Txt.n_own_reports (T : Txt K mg) : NoAttr K 1051 "own_reports" := T.noa 7 rfl
theorem Txt.n_own_frames (T : Txt K mg) : NoAttr K 1051 "own_frames" := T.noa 8 rfl
theorem Txt.n_own_past (T : Txt K mg) : NoAttr K 1051 "own_past" := T.noa 9 rfl
theorem Txt.m_County_only (T : Txt K mg) : Meth K 415 "only" 393 := (T.met 0 rfl).1
theorem Txt.i_County_only (T : Txt K mg) : PySem.W.fnIn K 393 = true := (T.met 0 rfl).2
theorem Txt.m_County_contains (T : Txt K mg) : Meth K 415 "__contains__" 374 := (T.met 1 rfl).1
theorem Txt.i_County_contains (T : Txt K mg) : PySem.W.fnIn K 374 = true := (T.met 1 rfl).2
theorem Txt.m_Step_call (T : Txt K mg) : Meth K 538 "__call__" 528 := (T.met 2 rfl).1
theorem Txt.i_Step_call (T : Txt K mg) : PySem.W.fnIn K 528 = true := (T.met 2 rfl).2
theorem Txt.m_Script_within (T : Txt K mg) : Meth K 756 "within" 678 := (T.met 3 rfl).1
theorem Txt.i_Script_within (T : Txt K mg) : PySem.W.fnIn K 678 = true := (T.met 3 rfl).2
theorem Txt.m_Script_call (T : Txt K mg) : Meth K 756 "__call__" 697 := (T.met 4 rfl).1
theorem Txt.i_Script_call (T : Txt K mg) : PySem.W.fnIn K 697 = true := (T.met 4 rfl).2
theorem Txt.m_Script_rshift (T : Txt K mg) : Meth K 756 "__rshift__" 725 := (T.met 5 rfl).1
theorem Txt.i_Script_rshift (T : Txt K mg) : PySem.W.fnIn K 725 = true := (T.met 5 rfl).2
theorem Txt.m_Board_state (T : Txt K mg) : Meth K 1051 "state" 807 := (T.met 6 rfl).1
theorem Txt.i_Board_state (T : Txt K mg) : PySem.W.fnIn K 807 = true := (T.met 6 rfl).2
theorem Txt.m_Board_keep (T : Txt K mg) : Meth K 1051 "keep" 821 := (T.met 7 rfl).1
theorem Txt.i_Board_keep (T : Txt K mg) : PySem.W.fnIn K 821 = true := (T.met 7 rfl).2
theorem Txt.m_Board_check (T : Txt K mg) : Meth K 1051 "check" 828 := (T.met 8 rfl).1
theorem Txt.i_Board_check (T : Txt K mg) : PySem.W.fnIn K 828 = true := (T.met 8 rfl).2
theorem Txt.m_Board_check_county (T : Txt K mg) : Meth K 1051 "check_county" 835 := (T.met 9 rfl).1
theorem Txt.i_Board_check_county (T : Txt K mg) : PySem.W.fnIn K 835 = true := (T.met 9 rfl).2
theorem Txt.m_Board_setitem (T : Txt K mg) : Meth K 1051 "__setitem__" 902 := (T.met 10 rfl).1
theorem Txt.i_Board_setitem (T : Txt K mg) : PySem.W.fnIn K 902 = true := (T.met 10 rfl).2
theorem Txt.m_Board_towns_of (T : Txt K mg) : Meth K 1051 "towns_of" 914 := (T.met 11 rfl).1
theorem Txt.i_Board_towns_of (T : Txt K mg) : PySem.W.fnIn K 914 = true := (T.met 11 rfl).2
theorem Txt.m_Board_whole (T : Txt K mg) : Meth K 1051 "whole" 921 := (T.met 12 rfl).1
theorem Txt.i_Board_whole (T : Txt K mg) : PySem.W.fnIn K 921 = true := (T.met 12 rfl).2
theorem Txt.m_Board_county_at (T : Txt K mg) : Meth K 1051 "county_at" 926 := (T.met 13 rfl).1
theorem Txt.i_Board_county_at (T : Txt K mg) : PySem.W.fnIn K 926 = true := (T.met 13 rfl).2
theorem Txt.m_Board_shown_at (T : Txt K mg) : Meth K 1051 "shown_at" 931 := (T.met 14 rfl).1
theorem Txt.i_Board_shown_at (T : Txt K mg) : PySem.W.fnIn K 931 = true := (T.met 14 rfl).2
theorem Txt.m_Board_sure (T : Txt K mg) : Meth K 1051 "sure" 938 := (T.met 15 rfl).1
theorem Txt.i_Board_sure (T : Txt K mg) : PySem.W.fnIn K 938 = true := (T.met 15 rfl).2
theorem Txt.m_Board_idle (T : Txt K mg) : Meth K 1051 "idle" 964 := (T.met 16 rfl).1
theorem Txt.i_Board_idle (T : Txt K mg) : PySem.W.fnIn K 964 = true := (T.met 16 rfl).2
theorem Txt.m_Board_turn (T : Txt K mg) : Meth K 1051 "turn" 999 := (T.met 17 rfl).1
theorem Txt.i_Board_turn (T : Txt K mg) : PySem.W.fnIn K 999 = true := (T.met 17 rfl).2
theorem Txt.m_Board_put (T : Txt K mg) : Meth K 1051 "put" 1006 := (T.met 18 rfl).1
theorem Txt.i_Board_put (T : Txt K mg) : PySem.W.fnIn K 1006 = true := (T.met 18 rfl).2
theorem Txt.m_Board_done (T : Txt K mg) : Meth K 1051 "done" 1020 := (T.met 19 rfl).1
theorem Txt.i_Board_done (T : Txt K mg) : PySem.W.fnIn K 1020 = true := (T.met 19 rfl).2
theorem Txt.m_Board_attempt (T : Txt K mg) : Meth K 1051 "attempt" 1027 := (T.met 20 rfl).1
theorem Txt.i_Board_attempt (T : Txt K mg) : PySem.W.fnIn K 1027 = true := (T.met 20 rfl).2
theorem Txt.p_County_rows (T : Txt K mg) : PropOf K 415 "rows" 344 343 := T.pro 0 rfl
theorem Txt.p_Step_kind (T : Txt K mg) : PropOf K 538 "kind" 505 504 := T.pro 1 rfl
theorem Txt.p_Step_least (T : Txt K mg) : PropOf K 538 "least" 513 512 := T.pro 2 rfl
theorem Txt.p_Script_steps (T : Txt K mg) : PropOf K 756 "steps" 626 625 := T.pro 3 rfl
theorem Txt.p_Script_form (T : Txt K mg) : PropOf K 756 "form" 640 639 := T.pro 4 rfl
theorem Txt.t_Step_of (T : Txt K mg) : StaOf K 538 "of" 496 494 := T.sta 0 rfl
theorem Txt.t_Script_of (T : Txt K mg) : StaOf K 756 "of" 617 615 := T.sta 1 rfl
theorem Txt.f_number_in (T : Txt K mg) : ∃ fd, FunD K "number_in" "number_in" (defArgs s_number_in) (defBody s_number_in) (defScope s_number_in) [] [] 38 fd := T.fn 0 (d := df 38 "number_in" "number_in" s_number_in []) rfl
theorem Txt.f_summed (T : Txt K mg) : ∃ fd, FunD K "summed" "summed" (defArgs s_summed) (defBody s_summed) (defScope s_summed) [] [] 278 fd := T.fn 1 (d := df 278 "summed" "summed" s_summed []) rfl
theorem Txt.f_County_init (T : Txt K mg) : ∃ fd, FunD K "__init__" "County.__init__" (defArgs s_County_init) (defBody s_County_init) (defScope s_County_init) [.ref 308] [] 316 fd := T.fn 2 (d := df 316 "__init__" "County.__init__" s_County_init [.adr fun _ => 308]) rfl
theorem Txt.f_County_rows (T : Txt K mg) : ∃ fd, FunD K "rows" "County.rows" (defArgs s_County_rows) (defBody s_County_rows) (defScope s_County_rows) [] [] 343 fd := T.fn 3 (d := df 343 "rows" "County.rows" s_County_rows []) rfl
theorem Txt.f_County_contains (T : Txt K mg) : ∃ fd, FunD K "__contains__" "County.__contains__" (defArgs s_County_contains) (defBody s_County_contains) (defScope s_County_contains) [] [] 374 fd := T.fn 4 (d := df 374 "__contains__" "County.__contains__" s_County_contains []) rfl
theorem Txt.f_County_only (T : Txt K mg) : ∃ fd, FunD K "only" "County.only" (defArgs s_County_only) (defBody s_County_only) (defScope s_County_only) [] [] 393 fd := T.fn 5 (d := df 393 "only" "County.only" s_County_only []) rfl
theorem Txt.f_many_from (T : Txt K mg) : ∃ fd, FunD K "many_from" "many_from" (defArgs s_many_from) (defBody s_many_from) (defScope s_many_from) [] [] 429 fd := T.fn 6 (d := df 429 "many_from" "many_from" s_many_from []) rfl
theorem Txt.f_places_of (T : Txt K mg) : ∃ fd, FunD K "places_of" "places_of" (defArgs s_places_of) (defBody s_places_of) (defScope s_places_of) [] [] 439 fd := T.fn 7 (d := df 439 "places_of" "places_of" s_places_of []) rfl
theorem Txt.f_is_within (T : Txt K mg) : ∃ fd, FunD K "is_within" "is_within" (defArgs s_is_within) (defBody s_is_within) (defScope s_is_within) [] [] 451 fd := T.fn 8 (d := df 451 "is_within" "is_within" s_is_within []) rfl
theorem Txt.f_Step_init (T : Txt K mg) : ∃ fd, FunD K "__init__" "Step.__init__" (defArgs s_Step_init) (defBody s_Step_init) (defScope s_Step_init) [] [] 487 fd := T.fn 9 (d := df 487 "__init__" "Step.__init__" s_Step_init []) rfl
theorem Txt.f_Step_of (T : Txt K mg) : ∃ fd, FunD K "of" "Step.of" (defArgs s_Step_of) (defBody s_Step_of) (defScope s_Step_of) [] [] 494 fd := T.fn 10 (d := df 494 "of" "Step.of" s_Step_of []) rfl
theorem Txt.f_Step_kind (T : Txt K mg) : ∃ fd, FunD K "kind" "Step.kind" (defArgs s_Step_kind) (defBody s_Step_kind) (defScope s_Step_kind) [] [] 504 fd := T.fn 11 (d := df 504 "kind" "Step.kind" s_Step_kind []) rfl
theorem Txt.f_Step_least (T : Txt K mg) : ∃ fd, FunD K "least" "Step.least" (defArgs s_Step_least) (defBody s_Step_least) (defScope s_Step_least) [] [] 512 fd := T.fn 12 (d := df 512 "least" "Step.least" s_Step_least []) rfl
theorem Txt.f_Step_call (T : Txt K mg) : ∃ fd, FunD K "__call__" "Step.__call__" (defArgs s_Step_call) (defBody s_Step_call) (defScope s_Step_call) [] [] 528 fd := T.fn 13 (d := df 528 "__call__" "Step.__call__" s_Step_call []) rfl
theorem Txt.f_least_in (T : Txt K mg) : ∃ fd, FunD K "least_in" "least_in" (defArgs s_least_in) (defBody s_least_in) (defScope s_least_in) [] [] 549 fd := T.fn 14 (d := df 549 "least_in" "least_in" s_least_in []) rfl
theorem Txt.f_floors_in (T : Txt K mg) : ∃ fd, FunD K "floors_in" "floors_in" (defArgs s_floors_in) (defBody s_floors_in) (defScope s_floors_in) [] [] 556 fd := T.fn 15 (d := df 556 "floors_in" "floors_in" s_floors_in []) rfl
theorem Txt.f_form_with (T : Txt K mg) : ∃ fd, FunD K "form_with" "form_with" (defArgs s_form_with) (defBody s_form_with) (defScope s_form_with) [] [] 561 fd := T.fn 16 (d := df 561 "form_with" "form_with" s_form_with []) rfl
theorem Txt.f_form_of_step (T : Txt K mg) : ∃ fd, FunD K "form_of_step" "form_of_step" (defArgs s_form_of_step) (defBody s_form_of_step) (defScope s_form_of_step) [] [] 568 fd := T.fn 17 (d := df 568 "form_of_step" "form_of_step" s_form_of_step []) rfl
theorem Txt.f_form_behind (T : Txt K mg) : ∃ fd, FunD K "form_behind" "form_behind" (defArgs s_form_behind) (defBody s_form_behind) (defScope s_form_behind) [] [] 573 fd := T.fn 18 (d := df 573 "form_behind" "form_behind" s_form_behind []) rfl
theorem Txt.f_form_of_steps (T : Txt K mg) : ∃ fd, FunD K "form_of_steps" "form_of_steps" (defArgs s_form_of_steps) (defBody s_form_of_steps) (defScope s_form_of_steps) [] [] 594 fd := T.fn 19 (d := df 594 "form_of_steps" "form_of_steps" s_form_of_steps []) rfl
theorem Txt.f_Script_init (T : Txt K mg) : ∃ fd, FunD K "__init__" "Script.__init__" (defArgs s_Script_init) (defBody s_Script_init) (defScope s_Script_init) [.ref 602] [] 610 fd := T.fn 20 (d := df 610 "__init__" "Script.__init__" s_Script_init [.adr fun _ => 602]) rfl
theorem Txt.f_Script_of (T : Txt K mg) : ∃ fd, FunD K "of" "Script.of" (defArgs s_Script_of) (defBody s_Script_of) (defScope s_Script_of) [] [] 615 fd := T.fn 21 (d := df 615 "of" "Script.of" s_Script_of []) rfl
theorem Txt.f_Script_steps (T : Txt K mg) : ∃ fd, FunD K "steps" "Script.steps" (defArgs s_Script_steps) (defBody s_Script_steps) (defScope s_Script_steps) [] [] 625 fd := T.fn 22 (d := df 625 "steps" "Script.steps" s_Script_steps []) rfl
theorem Txt.f_Script_form (T : Txt K mg) : ∃ fd, FunD K "form" "Script.form" (defArgs s_Script_form) (defBody s_Script_form) (defScope s_Script_form) [] [] 639 fd := T.fn 23 (d := df 639 "form" "Script.form" s_Script_form []) rfl
theorem Txt.f_Script_within (T : Txt K mg) : ∃ fd, FunD K "within" "Script.within" (defArgs s_Script_within) (defBody s_Script_within) (defScope s_Script_within) [] [] 678 fd := T.fn 24 (d := df 678 "within" "Script.within" s_Script_within []) rfl
theorem Txt.f_Script_call (T : Txt K mg) : ∃ fd, FunD K "__call__" "Script.__call__" (defArgs s_Script_call) (defBody s_Script_call) (defScope s_Script_call) [] [] 697 fd := T.fn 25 (d := df 697 "__call__" "Script.__call__" s_Script_call []) rfl
theorem Txt.f_Script_rshift (T : Txt K mg) : ∃ fd, FunD K "__rshift__" "Script.__rshift__" (defArgs s_Script_rshift) (defBody s_Script_rshift) (defScope s_Script_rshift) [] [] 725 fd := T.fn 26 (d := df 725 "__rshift__" "Script.__rshift__" s_Script_rshift []) rfl
theorem Txt.f_Board_init (T : Txt K mg) : ∃ fd, FunD K "__init__" "Board.__init__" (defArgs s_Board_init) (defBody s_Board_init) (defScope s_Board_init) [] [] 793 fd := T.fn 27 (d := df 793 "__init__" "Board.__init__" s_Board_init []) rfl
theorem Txt.f_Board_state (T : Txt K mg) : ∃ fd, FunD K "state" "Board.state" (defArgs s_Board_state) (defBody s_Board_state) (defScope s_Board_state) [] [] 807 fd := T.fn 28 (d := df 807 "state" "Board.state" s_Board_state []) rfl
theorem Txt.f_Board_keep (T : Txt K mg) : ∃ fd, FunD K "keep" "Board.keep" (defArgs s_Board_keep) (defBody s_Board_keep) (defScope s_Board_keep) [] [] 821 fd := T.fn 29 (d := df 821 "keep" "Board.keep" s_Board_keep []) rfl
theorem Txt.f_Board_check (T : Txt K mg) : ∃ fd, FunD K "check" "Board.check" (defArgs s_Board_check) (defBody s_Board_check) (defScope s_Board_check) [] [] 828 fd := T.fn 30 (d := df 828 "check" "Board.check" s_Board_check []) rfl
theorem Txt.f_Board_check_county (T : Txt K mg) : ∃ fd, FunD K "check_county" "Board.check_county" (defArgs s_Board_check_county) (defBody s_Board_check_county) (defScope s_Board_check_county) [] [] 835 fd := T.fn 31 (d := df 835 "check_county" "Board.check_county" s_Board_check_county []) rfl
theorem Txt.f_Board_setitem (T : Txt K mg) : ∃ fd, FunD K "__setitem__" "Board.__setitem__" (defArgs s_Board_setitem) (defBody s_Board_setitem) (defScope s_Board_setitem) [] [] 902 fd := T.fn 32 (d := df 902 "__setitem__" "Board.__setitem__" s_Board_setitem []) rfl
theorem Txt.f_Board_towns_of (T : Txt K mg) : ∃ fd, FunD K "towns_of" "Board.towns_of" (defArgs s_Board_towns_of) (defBody s_Board_towns_of) (defScope s_Board_towns_of) [] [] 914 fd := T.fn 33 (d := df 914 "towns_of" "Board.towns_of" s_Board_towns_of []) rfl
theorem Txt.f_Board_whole (T : Txt K mg) : ∃ fd, FunD K "whole" "Board.whole" (defArgs s_Board_whole) (defBody s_Board_whole) (defScope s_Board_whole) [] [] 921 fd := T.fn 34 (d := df 921 "whole" "Board.whole" s_Board_whole []) rfl
theorem Txt.f_Board_county_at (T : Txt K mg) : ∃ fd, FunD K "county_at" "Board.county_at" (defArgs s_Board_county_at) (defBody s_Board_county_at) (defScope s_Board_county_at) [] [] 926 fd := T.fn 35 (d := df 926 "county_at" "Board.county_at" s_Board_county_at []) rfl
theorem Txt.f_Board_shown_at (T : Txt K mg) : ∃ fd, FunD K "shown_at" "Board.shown_at" (defArgs s_Board_shown_at) (defBody s_Board_shown_at) (defScope s_Board_shown_at) [] [] 931 fd := T.fn 36 (d := df 931 "shown_at" "Board.shown_at" s_Board_shown_at []) rfl
theorem Txt.f_Board_sure (T : Txt K mg) : ∃ fd, FunD K "sure" "Board.sure" (defArgs s_Board_sure) (defBody s_Board_sure) (defScope s_Board_sure) [] [] 938 fd := T.fn 37 (d := df 938 "sure" "Board.sure" s_Board_sure []) rfl
theorem Txt.f_Board_idle (T : Txt K mg) : ∃ fd, FunD K "idle" "Board.idle" (defArgs s_Board_idle) (defBody s_Board_idle) (defScope s_Board_idle) [] [] 964 fd := T.fn 38 (d := df 964 "idle" "Board.idle" s_Board_idle []) rfl
theorem Txt.f_Board_turn (T : Txt K mg) : ∃ fd, FunD K "turn" "Board.turn" (defArgs s_Board_turn) (defBody s_Board_turn) (defScope s_Board_turn) [] [] 999 fd := T.fn 39 (d := df 999 "turn" "Board.turn" s_Board_turn []) rfl
theorem Txt.f_Board_put (T : Txt K mg) : ∃ fd, FunD K "put" "Board.put" (defArgs s_Board_put) (defBody s_Board_put) (defScope s_Board_put) [] [] 1006 fd := T.fn 40 (d := df 1006 "put" "Board.put" s_Board_put []) rfl
theorem Txt.f_Board_done (T : Txt K mg) : ∃ fd, FunD K "done" "Board.done" (defArgs s_Board_done) (defBody s_Board_done) (defScope s_Board_done) [] [] 1020 fd := T.fn 41 (d := df 1020 "done" "Board.done" s_Board_done []) rfl
theorem Txt.f_Board_attempt (T : Txt K mg) : ∃ fd, FunD K "attempt" "Board.attempt" (defArgs s_Board_attempt) (defBody s_Board_attempt) (defScope s_Board_attempt) [] [] 1027 fd := T.fn 42 (d := df 1027 "attempt" "Board.attempt" s_Board_attempt []) rfl
theorem Txt.f_law_box (T : Txt K mg) : ∃ fd, FunD K "_law_box" "_law_box" (defArgs s_law_box) (defBody s_law_box) (defScope s_law_box) [] [] 1062 fd := T.fn 43 (d := df 1062 "_law_box" "_law_box" s_law_box []) rfl
theorem Txt.f_law_take (T : Txt K mg) : ∃ fd, FunD K "_law_take" "_law_take" (defArgs s_law_take) (defBody s_law_take) (defScope s_law_take) [] [] 1069 fd := T.fn 44 (d := df 1069 "_law_take" "_law_take" s_law_take []) rfl
theorem Txt.f_law_cells (T : Txt K mg) : ∃ fd, FunD K "_law_cells" "_law_cells" (defArgs s_law_cells) (defBody s_law_cells) (defScope s_law_cells) [] [] 1076 fd := T.fn 45 (d := df 1076 "_law_cells" "_law_cells" s_law_cells []) rfl
theorem Txt.f_law_of (T : Txt K mg) : ∃ fd, FunD K "_law_of" "_law_of" (defArgs s_law_of) (defBody s_law_of) (defScope s_law_of) [] [] 1083 fd := T.fn 46 (d := df 1083 "_law_of" "_law_of" s_law_of []) rfl
theorem Txt.f_law_same (T : Txt K mg) : ∃ fd, FunD K "_law_same" "_law_same" (defArgs s_law_same) (defBody s_law_same) (defScope s_law_same) [] [] 1088 fd := T.fn 47 (d := df 1088 "_law_same" "_law_same" s_law_same []) rfl
theorem Txt.f_law_stride (T : Txt K mg) : ∃ fd, FunD K "_law_stride" "_law_stride" (defArgs s_law_stride) (defBody s_law_stride) (defScope s_law_stride) [] [] 1095 fd := T.fn 48 (d := df 1095 "_law_stride" "_law_stride" s_law_stride []) rfl
theorem Txt.f_law_line (T : Txt K mg) : ∃ fd, FunD K "_law_line" "_law_line" (defArgs s_law_line) (defBody s_law_line) (defScope s_law_line) [] [] 1100 fd := T.fn 49 (d := df 1100 "_law_line" "_law_line" s_law_line []) rfl
theorem Txt.f_law_host (T : Txt K mg) : ∃ fd, FunD K "_law_host" "_law_host" (defArgs s_law_host) (defBody s_law_host) (defScope s_law_host) [] [] 1105 fd := T.fn 50 (d := df 1105 "_law_host" "_law_host" s_law_host []) rfl
theorem Txt.f_law_left (T : Txt K mg) : ∃ fd, FunD K "_law_left" "_law_left" (defArgs s_law_left) (defBody s_law_left) (defScope s_law_left) [] [] 1110 fd := T.fn 51 (d := df 1110 "_law_left" "_law_left" s_law_left []) rfl
theorem Txt.f_law_by_hand_right (T : Txt K mg) : ∃ fd, FunD K "_law_by_hand_right" "_law_by_hand_right" (defArgs s_law_by_hand_right) (defBody s_law_by_hand_right) (defScope s_law_by_hand_right) [] [] 1117 fd := T.fn 52 (d := df 1117 "_law_by_hand_right" "_law_by_hand_right" s_law_by_hand_right []) rfl
theorem Txt.f_law_papers (T : Txt K mg) : ∃ fd, FunD K "_law_papers" "_law_papers" (defArgs s_law_papers) (defBody s_law_papers) (defScope s_law_papers) [] [] 1122 fd := T.fn 53 (d := df 1122 "_law_papers" "_law_papers" s_law_papers []) rfl
theorem Txt.f_law_all_in (T : Txt K mg) : ∃ fd, FunD K "_law_all_in" "_law_all_in" (defArgs s_law_all_in) (defBody s_law_all_in) (defScope s_law_all_in) [] [] 1127 fd := T.fn 54 (d := df 1127 "_law_all_in" "_law_all_in" s_law_all_in []) rfl
theorem Txt.f_law_right (T : Txt K mg) : ∃ fd, FunD K "_law_right" "_law_right" (defArgs s_law_right) (defBody s_law_right) (defScope s_law_right) [] [] 1132 fd := T.fn 55 (d := df 1132 "_law_right" "_law_right" s_law_right []) rfl
theorem Txt.f_law (T : Txt K mg) : ∃ fd, FunD K "law" "law" (defArgs s_law) (defBody s_law) (defScope s_law) [] [] 1137 fd := T.fn 56 (d := df 1137 "law" "law" s_law []) rfl
end
end K98

/-! S3Rules: the promise of a pure def, calls, makings, statements and loops by data; builtins by data. -/
namespace K98
open PySem PySem.Spec PyProof.Rows L2

/-! ### promises -/
/-- a pure def: of data ds it makes the data d (R ds d), and leaves all that stood -/
def pureSp (K : PySem.W.Frag) (R : List D → D → Prop) : Sp := fun vs H Q _ => ∃ I ds d, Sub I H ∧ AtL K I vs ds ∧ R ds d ∧ ∀ v I' H', Gr [] I H I' H' → At K I' v d → Q v H'
/-- an __init__: of a bare instance and data ds it makes the attributes fs -/
def initSp (K : PySem.W.Frag) (C : Addr) (R : List D → List (Str × D) → Prop) : Sp := fun vs H Q _ => ∃ I x dx ws ds fs, vs = .ref x :: ws ∧ Sub I H ∧ I x = none ∧ H x = some (.ins C dx []) ∧ AtL K I ws ds ∧ R ds fs ∧
  ∀ I' H' gs, Gr [x] I H I' H' → I' x = none → H' x = some (.ins C dx gs) → AtF K I' gs fs → Q .non H'
/-- a def that keeps a promise, and how it is called -/
structure Kn (P : Program) (w : World) (K : PySem.W.Frag) (mg : Str → Option Value) (base : Heap) (k : Nat) (f : Addr) (ps : List Str) (sp : Sp) : Prop where
  ex : ∃ fd, FnOk P w K mg base CX0 k f fd ps sp ∧ Binds K fd ps []
  kp : PySem.W.keepIn K (.ref f) = true

section
variable {P : Program} {w : World} {K : PySem.W.Frag} {mg : Str → Option Value} {base : Heap}
theorem Kn.mono {j k : Nat} {f : Addr} {ps : List Str} {sp : Sp} (G : Kn P w K mg base j f ps sp) (h : j ≤ k) : Kn P w K mg base k f ps sp := by
  obtain ⟨fd, F, b⟩ := G.ex
  exact ⟨⟨fd, F.mono h, b⟩, G.kp⟩
theorem Kn.of {x qual : Str} {st : Stmt} {f : Addr} {N ps : List Str} {k : Nat} {sp : Sp} (F : ∃ fd, FunD K x qual (defArgs st) (defBody st) (defScope st) [] [] f fd) (S : FnScope N ps (defScope st))
    (hb : ∀ (kV doc pm : Value) (an : Option Addr) (cdv ct : Value) (us : List Value), us.length = ps.length → bindArgs (PySem.W.fnOf x qual (defArgs st) (defBody st) (defScope st) .none kV doc pm an cdv ct) ⟨us, []⟩ = pure (ps.zip us))
    (len : ∀ vs H Q E, sp vs H Q E → vs.length = ps.length)
    (body : ∀ (cdv : Value) (A : Around) (outer : List Env) (s : Shared) (H : Hp) (vs : List V) (Q : VK) (E : XK), Room k (A.deeper (envOfC qual (defScope st) s.heap.objs.size f cdv)) → sp vs H Q E →
      ∃ t, PSs (cxOf CX0 P w K mg base N qual (defScope st) f cdv A outer s H E).nox (defBody st) t ∧ t { nx := fun _ H' => Q .non H', rt := Q } (start N vs) H) : Kn P w K mg base (k + 1) f ps sp := by
  obtain ⟨fd, F⟩ := F
  refine ⟨⟨fd, F.ok S len fun cdv A outer s H vs Q E hr h => ?_, F.bindsN hb⟩, F.kp⟩
  obtain ⟨t, h1, h2⟩ := body cdv A outer s H vs Q E hr h
  exact ⟨t, h1.nox, h2⟩
/-- what a pure body must do -/
def Ret (K : PySem.W.Frag) (t : TS) (σ : L2.St) (I H : Hp) (d : D) : Prop := ∀ Dn : Ends, (∀ v I' H', Gr [] I H I' H' → At K I' v d → Dn.rt v H') → t Dn σ H
theorem Kn.pure {x qual : Str} {st : Stmt} {f : Addr} {N ps : List Str} {k : Nat} {R : List D → D → Prop} (F : ∃ fd, FunD K x qual (defArgs st) (defBody st) (defScope st) [] [] f fd) (S : FnScope N ps (defScope st))
    (hb : ∀ (kV doc pm : Value) (an : Option Addr) (cdv ct : Value) (us : List Value), us.length = ps.length → bindArgs (PySem.W.fnOf x qual (defArgs st) (defBody st) (defScope st) .none kV doc pm an cdv ct) ⟨us, []⟩ = Pure.pure (ps.zip us))
    (len : ∀ ds d, R ds d → ds.length = ps.length)
    (body : ∀ (cdv : Value) (A : Around) (outer : List Env) (s : Shared) (H0 : Hp) (E : XK), Room k (A.deeper (envOfC qual (defScope st) s.heap.objs.size f cdv)) →
      ∃ t, PSs (cxOf CX0 P w K mg base N qual (defScope st) f cdv A outer s H0 E).nox (defBody st) t ∧ ∀ vs ds d I, Sub I H0 → AtL K I vs ds → R ds d → Ret K t (start N vs) I H0 d) : Kn P w K mg base (k + 1) f ps (pureSp K R) := by
  refine Kn.of F S hb (fun vs H Q E h => ?_) fun cdv A outer s H vs Q E hr h => ?_
  · obtain ⟨I, ds, d, _, a, r, _⟩ := h
    rw [a.length, len ds d r]
  · obtain ⟨I, ds, d, s1, a, r, q⟩ := h
    obtain ⟨t, h1, h2⟩ := body cdv A outer s H E hr
    exact ⟨t, h1, h2 vs ds d I s1 a r _ q⟩
end

/-! ### calls by such promises -/
section
variable {X : Cx} {k : Nat} {f C : Addr} {ps : List Str} {sp : Sp} {x m : Str} {p pos apos : Pos} {e o : Expr} {es : List Expr} {ta : TE} {t : TA}
theorem pc (G : Kn X.prog X.w X.K X.mg X.base k f ps sp) (hr : Room k X.A) (hm : X.mg x = some (.ref f)) (ha : PA X (e :: es) t) (hg : Gl X x := by rfl) (hdb : (x == ("__debug__" : Str)) = false := by decide)
    (he : starEach (e :: es) X.env = (false, eval e X.env) :: starEach es X.env := by rfl) (hpl : (backTo pos (starEach es X.env)).any (·.1) = false := by rfl) : PE X (.Call (.Name x p) (e :: es) [] pos) (tCall sp [] E0 t) := by
  obtain ⟨fd, F, b⟩ := G.ex
  exact pe_call F hr hg hm G.kp b .nil pass0 ha hdb he hpl
theorem pc0 (G : Kn X.prog X.w X.K X.mg X.base k f ps sp) (hr : Room k X.A) (hm : X.mg x = some (.ref f)) (hg : Gl X x := by rfl) (hdb : (x == ("__debug__" : Str)) = false := by decide) : PE X (.Call (.Name x p) [] [] pos) (tCall sp [] E0 tNil) := by
  obtain ⟨fd, F, b⟩ := G.ex
  exact pe_call0 F hr hg hm G.kp b .nil pass0 hdb
end

section
variable {K : PySem.W.Frag} {σ : L2.St} {I H : Hp} {ta tb te : TE} {d : D} {R : List D → D → Prop}
theorem ed_call {t : TA} {ds : List D} (ha : EvA K t σ I H ds) (hr : R ds d) : EvD K (tCall (pureSp K R) [] E0 t) σ I H d := fun I1 H1 g Q q =>
  ha I1 H1 g _ fun vs I2 H2 g2 as => ⟨I2, ds, d, g2.sub, by rw [List.append_nil]; exact as, hr, fun v I3 H3 g3 a => q v I3 H3 (g2.tr g3) a⟩
theorem ed_meth {C : Addr} {m : Str} {t : TA} {dfs : List (Str × D)} {ds : List D} (ho : EvD K ta σ I H (.ins C dfs)) (hn : dfs.lookup m = none) (ha : EvA K t σ I H ds) (hr : R (.ins C dfs :: ds) d) : EvD K (tMeth C m (pureSp K R) [] E0 ta t) σ I H d := fun I1 H1 g Q q =>
  ho I1 H1 g _ fun v I2 H2 g2 a => by
    cases a with
    | ins h1 h2 =>
      refine ⟨_, _, _, rfl, g2.sub _ _ h1, h2.look0 hn, ha I2 H2 (g.tr g2) _ fun vs I3 H3 g3 as => ⟨I3, _, d, g3.sub, ?_, hr, fun v I4 H4 g4 a => q v I4 H4 ((g2.tr g3).tr g4) a⟩⟩
      rw [List.append_nil]
      exact .cons ((At.ins h1 h2).gr g3) as
theorem ed_prop {C : Addr} {dfs : List (Str × D)} (ho : EvD K ta σ I H (.ins C dfs)) (hr : R [.ins C dfs] d) : EvD K (tProp C (pureSp K R) [] E0 ta) σ I H d := fun I1 H1 g Q q =>
  ho I1 H1 g _ fun v I2 H2 g2 a => by
    have a0 := a
    cases a with
    | ins h1 h2 => exact ⟨_, _, _, rfl, g2.sub _ _ h1, I2, _, d, g2.sub, .cons a0 .nil, hr, fun v I4 H4 g4 a => q v I4 H4 (g2.tr g4) a⟩
theorem ed_make {C : Addr} {Ri : List D → List (Str × D) → Prop} {t : TA} {ds : List D} {fs : List (Str × D)} (ha : EvA K t σ I H ds) (hr : Ri ds fs) : EvD K (tMake C (initSp K C Ri) [] E0 t) σ I H (.ins C fs) := fun I1 H1 g Q q =>
  ha I1 H1 g _ fun vs I2 H2 g2 as x dx nx ndx ne => by
    have g3 : Gr [] I2 H2 I2 (upd (upd H2 dx (.own x)) x (.ins C dx [])) := (Gr.side (M := []) g2.sub ndx).mut nx (sub_free g2.sub nx)
    refine ⟨I2, x, dx, _, ds, fs, rfl, g3.sub, sub_free g2.sub nx, upd_same, by rw [List.append_nil]; exact as, hr, fun I4 H4 gs g4 n4 h4 a4 => ⟨rfl, ?_⟩⟩
    have g24 : Gr [] I2 H2 I4 H4 := by
      refine ⟨fun a o z => g4.ext a o z, g4.sub, fun a o n z => g4.out a o n (g3.keep a o n z (by simp)), fun a o n z _ => g4.keep a o n (g3.keep a o n z (by simp)) ?_⟩
      intro hm
      have e : a = x := by simpa using hm
      rw [e, nx] at z
      cases z
    refine q _ (upd I4 x (.ins C dx gs)) H4 ((g2.tr g24).know ?_ h4 n4) ?_
    · cases q1 : H1 x with
      | none => rfl
      | some o =>
        exfalso
        cases q2 : I1 x with
        | some u =>
          have z := g2.sub _ _ (g2.ext _ _ q2)
          rw [nx] at z
          cases z
        | none =>
          have z := g2.keep _ _ q2 q1 (by simp)
          rw [nx] at z
          cases z
    · exact .ins upd_same (AtF.le (upd_le n4) _ a4)

/-! ### statements -/
theorem rt_ret {d : D} (h : EvD K te σ I H d) (s : Sub I H) : Ret K (tRet te) σ I H d := fun Dn q => h.run s q
theorem rt_seq {t u : TS} {d : D} (h : ∀ Dn : Ends, (∀ v I' H', Gr [] I H I' H' → At K I' v d → Dn.rt v H') → t { Dn with nx := u Dn } σ H) : Ret K (tSeq t u) σ I H d := fun Dn q => h Dn q
theorem sx_seq {t u : TS} {Dn : Ends} (h : t { Dn with nx := u Dn } σ H) : tSeq t u Dn σ H := h
/-- name = e -/
theorem sx_asg {i : Nat} {Dn : Ends} {d : D} (h : EvD K te σ I H d) (s : Sub I H) (k : ∀ v I1 H1, Gr [] I H I1 H1 → At K I1 v d → Dn.nx (σ.set i (some v)) H1) : tAsg te (gName i) Dn σ H := h.run s k
theorem sx_if {t : TT} {tu tw : TS} {Dn : Ends} {b : Bool} (h : EvB t σ I H b) (s : Sub I H) (h1 : b = true → ∀ I1 H1, Gr [] I H I1 H1 → tu Dn σ H1) (h2 : b = false → ∀ I1 H1, Gr [] I H I1 H1 → tw Dn σ H1) : tIfS t tu tw Dn σ H := h.run s fun I1 H1 g => by
  cases b with
  | true =>
    show tu Dn σ H1
    exact h1 rfl I1 H1 g
  | false =>
    show tw Dn σ H1
    exact h2 rfl I1 H1 g
/-- x = [], the list beside what is known -/
theorem sx_new {i : Nat} {Dn : Ends} (s : Sub I H) (k : ∀ l, H l = none → I l = none → Gr [] I H I (upd H l (.lst [])) → Dn.nx (σ.set i (some (.ref l))) (upd H l (.lst []))) : tAsg (tLst tNil) (gName i) Dn σ H :=
  ⟨Nat.zero_le _, fun l hl => k l hl (sub_free s hl) (.side s hl)⟩
/-- xs.append(e), the list beside what is known -/
theorem sx_app {i : Nat} {l : Addr} {xs : List V} {Dn : Ends} {d : D} (hv : σ[i]? = some (some (.ref l))) (hl : H l = some (.lst xs)) (nl : I l = none) (h : EvD K te σ I H d) (s : Sub I H) (hz : xs.length < 100000)
    (k : ∀ v I1 H1, Gr [] I H I1 H1 → At K I1 v d → H1 l = some (.lst xs) → I1 l = none → Dn.nx σ (upd H1 l (.lst (xs ++ [v])))) : tDrop (tBM K "list" rAppend (tVar i) (tCons te tNil)) Dn σ H :=
  ⟨.ref l, hv, .inl ⟨rfl, xs, .of hl⟩, h.run s fun v I1 H1 g a => by
    have h1 := g.keep l _ nl hl (by simp)
    exact ⟨l, xs, v, rfl, rfl, h1, Nat.lt_of_lt_of_le hz (by decide), k v I1 H1 g a h1 (g.out l _ nl hl)⟩⟩
/-- for target in iter: body, by an invariant of the turn, the slots, what is known and the heap -/
theorem sx_for {α : Type} {wi : TI} {g : TG} {tb : TS} {Dn : Ends} {M : List Addr} (xs : List α) (enc : α → D) (Pv : Nat → L2.St → Hp → Hp → Prop) (hw : EvI K wi σ I H (xs.map enc)) (s : Sub I H)
    (h0 : ∀ I1 H1, Gr [] I H I1 H1 → Pv 0 σ I1 H1)
    (hs : ∀ (i : Nat) a x σ1 I1 H1, xs[i]? = some a → Pv i σ1 I1 H1 → ∀ I2 H2, Gr [] I1 H1 I2 H2 → At K I2 x (enc a) → ∀ N : L2.St → Hp → Prop, (∀ σ4 I4 H4, Gr M I2 H2 I4 H4 → Pv (i + 1) σ4 I4 H4 → N σ4 H4) →
      g x σ1 H2 fun σ3 H3 => tb { Dn with nx := N, ct := N, bk := Dn.nx } σ3 H3)
    (hd : ∀ σ1 I1 H1, Sub I1 H1 → Pv xs.length σ1 I1 H1 → Dn.nx σ1 H1) : tFor wi g tb Dn σ H := by
  refine hw I H (.refl s) _ fun J I2 H2 g2 it => ?_
  refine ⟨fun i m σ1 H1 => m = xs.length - i ∧ i ≤ xs.length ∧ ∃ I1, Ext I2 I1 ∧ Sub I1 H1 ∧ Pv i σ1 I1 H1, ⟨xs.length, by simp, Nat.zero_le _, I2, (Gr.refl (M := []) g2.sub).ext, g2.sub, h0 I2 H2 g2⟩, ?_⟩
  rintro i m σ1 H1 ⟨rfl, hi, I1, le, s1, p1⟩
  by_cases hlt : i < xs.length
  · obtain ⟨a, ha⟩ : ∃ a, xs[i]? = some a := ⟨xs[i], by simp [hlt]⟩
    have hm : (xs.map enc)[i]? = some (enc a) := by rw [List.getElem?_map, ha]; rfl
    refine .inr ⟨it.go i _ I1 H1 le s1 hm, fun σ4 H4 => ∃ I4, Ext I2 I4 ∧ Sub I4 H4 ∧ Pv (i + 1) σ4 I4 H4, fun σ4 H4 ⟨I4, z1, z2, z3⟩ => ⟨xs.length - (i + 1), by omega, rfl, hlt, I4, z1, z2, z3⟩, fun x H3 y => ?_⟩
    obtain ⟨I3, g3, a3⟩ := it.yld i _ I1 H1 x H3 le s1 hm y
    exact hs i a x σ1 I1 H1 ha p1 I3 H3 g3 a3 _ fun σ4 I4 H4 z1 z2 =>
      ⟨I4, fun a o q => z1.ext a o (g3.ext a o (le a o q)), z1.sub, z2⟩
  · have e : i = xs.length := by omega
    subst e
    have z := it.stop I1 H1 le s1
    rw [List.length_map] at z
    exact .inl ⟨z, hd σ1 I1 H1 s1 p1⟩
/-! the same, ahead of the rest of a block -/
theorem sq_asg {i : Nat} {u : TS} {Dn : Ends} {d : D} (h : EvD K te σ I H d) (s : Sub I H) (k : ∀ v I1 H1, Gr [] I H I1 H1 → At K I1 v d → u Dn (σ.set i (some v)) H1) : tSeq (tAsg te (gName i)) u Dn σ H := sx_asg (Dn := { Dn with nx := u Dn }) h s k
theorem sq_if {t : TT} {tu tw u : TS} {Dn : Ends} {b : Bool} (h : EvB t σ I H b) (s : Sub I H) (h1 : b = true → ∀ I1 H1, Gr [] I H I1 H1 → tu { Dn with nx := u Dn } σ H1) (h2 : b = false → ∀ I1 H1, Gr [] I H I1 H1 → tw { Dn with nx := u Dn } σ H1) : tSeq (tIfS t tu tw) u Dn σ H := sx_if (Dn := { Dn with nx := u Dn }) h s h1 h2
theorem sq_int {i : Nat} {u : TS} {Dn : Ends} {n : Int} (h : EvD K te σ I H (.int n)) (s : Sub I H) (k : ∀ I1 H1, Gr [] I H I1 H1 → u Dn (σ.set i (some (.int n))) H1) : tSeq (tAsg te (gName i)) u Dn σ H := sq_asg h s fun v I1 H1 g a => by
  cases a
  exact k I1 H1 g
theorem sx_int {i : Nat} {Dn : Ends} {n : Int} (h : EvD K te σ I H (.int n)) (s : Sub I H) (k : ∀ I1 H1, Gr [] I H I1 H1 → Dn.nx (σ.set i (some (.int n))) H1) : tAsg te (gName i) Dn σ H := sx_asg h s fun v I1 H1 g a => by
  cases a
  exact k I1 H1 g
/-- an if that is not taken and has no else -/
theorem sq_ifN {t : TT} {tu u : TS} {Dn : Ends} (h : EvB t σ I H false) (s : Sub I H) (k : ∀ I1 H1, Gr [] I H I1 H1 → u Dn σ H1) : tSeq (tIfS t tu tNext) u Dn σ H := sx_if (Dn := { Dn with nx := u Dn }) h s (fun z => nomatch z) fun _ => k
theorem sq_new {i : Nat} {u : TS} {Dn : Ends} (s : Sub I H) (k : ∀ l, H l = none → I l = none → Gr [] I H I (upd H l (.lst [])) → u Dn (σ.set i (some (.ref l))) (upd H l (.lst []))) : tSeq (tAsg (tLst tNil) (gName i)) u Dn σ H := sx_new (Dn := { Dn with nx := u Dn }) s k
theorem sq_app {i : Nat} {l : Addr} {xs : List V} {u : TS} {Dn : Ends} {d : D} (hv : σ[i]? = some (some (.ref l))) (hl : H l = some (.lst xs)) (nl : I l = none) (h : EvD K te σ I H d) (s : Sub I H) (hz : xs.length < 100000)
    (k : ∀ v I1 H1, Gr [] I H I1 H1 → At K I1 v d → H1 l = some (.lst xs) → I1 l = none → u Dn σ (upd H1 l (.lst (xs ++ [v])))) : tSeq (tDrop (tBM K "list" rAppend (tVar i) (tCons te tNil))) u Dn σ H := sx_app (Dn := { Dn with nx := u Dn }) hv hl nl h s hz k
theorem sq_for {α : Type} {wi : TI} {g : TG} {tb u : TS} {Dn : Ends} {M : List Addr} (xs : List α) (enc : α → D) (Pv : Nat → L2.St → Hp → Hp → Prop) (hw : EvI K wi σ I H (xs.map enc)) (s : Sub I H)
    (h0 : ∀ I1 H1, Gr [] I H I1 H1 → Pv 0 σ I1 H1)
    (hs : ∀ (i : Nat) a x σ1 I1 H1, xs[i]? = some a → Pv i σ1 I1 H1 → ∀ I2 H2, Gr [] I1 H1 I2 H2 → At K I2 x (enc a) → ∀ N : L2.St → Hp → Prop, (∀ σ4 I4 H4, Gr M I2 H2 I4 H4 → Pv (i + 1) σ4 I4 H4 → N σ4 H4) →
      g x σ1 H2 fun σ3 H3 => tb { Dn with nx := N, ct := N, bk := u Dn } σ3 H3)
    (hd : ∀ σ1 I1 H1, Sub I1 H1 → Pv xs.length σ1 I1 H1 → u Dn σ1 H1) : tSeq (tFor wi g tb) u Dn σ H := sx_for (Dn := { Dn with nx := u Dn }) xs enc Pv hw s h0 hs hd
end
end K98

/-! S5Rules: rules of the walk that the layer has not: t[::-1], own >>, own in, own o[i] = v, o.f as a target, a staticmethod's call; calls by Kn. -/
namespace K98
open PySem PySem.Spec PyProof.Rows L2

section
variable {X : Cx} {k : Nat} {f g C p1 : Addr} {ps : List Str} {sp : Sp} {x m : Str} {p pos apos : Pos} {e o : Expr} {es : List Expr} {ta tb : TE} {t : TA}
/-! ### calls by Kn -/
theorem pm {pl : Sem Bool} (he : PE X o ta) (c : Cls X.K C) (hm : Meth X.K C m f) (G : Kn X.prog X.w X.K X.mg X.base k f ps sp) (hr : Room k X.A) (ha : PA X (e :: es) t)
    (hst : starEach (e :: es) X.env = (false, eval e X.env) :: starEach es X.env := by rfl) (hpl : (backTo pos (starEach es X.env)).any (·.1) = false := by rfl)
    (ht : eval (.Call (.Attribute o m apos) (e :: es) [] pos) X.env = (do
      let ov ← eval o X.env
      standAt apos.atName
      let (f, first) ← holding [ov] (getMethod ov m pl)
      callWith pos f first (backTo pos (starEach (e :: es) X.env)) (backToKw pos (keywordEach [] X.env))) := by rfl) : PE X (.Call (.Attribute o m apos) (e :: es) [] pos) (tMeth C m sp [] E0 ta t) := by
  obtain ⟨fd, F, b⟩ := G.ex
  exact pe_meth he c hm F hr b .nil pass0 ha hst hpl ht
theorem pm0 {pl : Sem Bool} (he : PE X o ta) (c : Cls X.K C) (hm : Meth X.K C m f) (G : Kn X.prog X.w X.K X.mg X.base k f ps sp) (hr : Room k X.A)
    (ht : eval (.Call (.Attribute o m apos) [] [] pos) X.env = (do
      let ov ← eval o X.env
      standAt apos.atName
      let (f, first) ← holding [ov] (getMethod ov m pl)
      callWith pos f first (backTo pos (starEach [] X.env)) (backToKw pos (keywordEach [] X.env))) := by rfl) : PE X (.Call (.Attribute o m apos) [] [] pos) (tMeth C m sp [] E0 ta tNil) := by
  obtain ⟨fd, F, b⟩ := G.ex
  exact pe_meth0 he c hm F hr b .nil pass0 ht
theorem pp (he : PE X e ta) (c : Cls X.K C) (hp : PropOf X.K C m p1 g) (G : Kn X.prog X.w X.K X.mg X.base k g ps sp) (hr : Room (k + 1) X.A) (hab : attributeBase e m X.env (eval e X.env) = eval e X.env := by rfl) : PE X (.Attribute e m pos) (tProp C sp [] E0 ta) := by
  obtain ⟨fd, F, b⟩ := G.ex
  exact pe_prop he c hp F hr b .nil pass0 hab
theorem pmk (M : Mk X.K C f) (G : Kn X.prog X.w X.K X.mg X.base k f ps sp) (hr : Room (k + 1) X.A) (hm : X.mg x = some (.ref C)) (ha : PA X (e :: es) t) (hg : Gl X x := by rfl) (hdb : (x == ("__debug__" : Str)) = false := by decide)
    (he : starEach (e :: es) X.env = (false, eval e X.env) :: starEach es X.env := by rfl) (hpl : (backTo pos (starEach es X.env)).any (·.1) = false := by rfl) : PE X (.Call (.Name x p) (e :: es) [] pos) (tMake C sp [] E0 t) := by
  obtain ⟨fd, F, b⟩ := G.ex
  exact pe_make M F hr hg hm b .nil pass0 ha hdb he hpl
theorem pmk0 (M : Mk X.K C f) (G : Kn X.prog X.w X.K X.mg X.base k f ps sp) (hr : Room (k + 1) X.A) (hm : X.mg x = some (.ref C)) (hg : Gl X x := by rfl) (hdb : (x == ("__debug__" : Str)) = false := by decide) : PE X (.Call (.Name x p) [] [] pos) (tMake C sp [] E0 tNil) := by
  obtain ⟨fd, F, b⟩ := G.ex
  exact pe_make0 M F hr hg hm b .nil pass0 hdb

/-! ### an own operator, an own in, an own o[i] = v -/
theorem cmpBack_of {pins : List (Addr × Obj)} {σ : L2.St} {Q : VK} {u : Value} {s' : Shared} (h : EP X pins σ Q u s') : PySem.W.CmpBack (EP X pins σ Q) u s' := by
  obtain ⟨v, H', I, r, q⟩ := h
  have e := r.abs
  cases u with
  | notImplemented => cases e
  | _ => exact ⟨v, H', I, r, q⟩
theorem ins_at {pins : List (Addr × Obj)} {σ : L2.St} {H : Hp} {s : Shared} {a dx : Addr} {fs : List (Str × V)} (I : Inv X pins σ H s) (h : H a = some (.ins C dx fs)) : ∃ od, PySem.W.InstAt s.heap a (PySem.W.instObj C dx) C (some od) := by
  obtain ⟨mA, O, _⟩ := ins_get I.hok h
  obtain ⟨od, J, _⟩ := O.look
  exact ⟨od, J⟩
/-- x op y, both instances of C, by C's own method -/
def rOwnOp (C : Addr) (sp : Sp) : R2 := fun x y H Q => ∃ a b dx fs dy gs, x = .ref a ∧ y = .ref b ∧ H a = some (.ins C dx fs) ∧ H b = some (.ins C dy gs) ∧ sp [.ref a, .ref b] H Q E0
theorem op_ownOp {op : Operator} (hs : PySem.W.findIn X.K (.ref C) (PySem.dunder op.info.2) = some (some (.ref f))) (hf : PySem.W.isFn X.K (.ref f) = true) (hc : PySem.W.selfFirst X.K C = true) (G : Kn X.prog X.w X.K X.mg X.base k f ps sp) (hr : Room k X.A) : OpR X (binaryOp op) (rOwnOp C sp) := by
  intro pins s σ H x y v u Q I rx ry h
  obtain ⟨a, b, dx, fs, dy, gs, rfl, rfl, ha, hb, q⟩ := h
  cases rx
  cases ry
  obtain ⟨od, J⟩ := ins_at I ha
  obtain ⟨od2, J2⟩ := ins_at I hb
  obtain ⟨m', F⟩ := I.fr
  obtain ⟨fd, Fn, bd⟩ := G.ex
  refine PySem.W.binop_K F I.ok.mod.kin J J2.type hc hs hf ?_
  exact thn (run_fn (us := [.ref a, .ref b]) (vs := [.ref a, .ref b]) Fn hr bd .nil pass0 I (.cons rfl (.cons rfl .nil)) (by rw [List.append_nil]; exact q)) fun r s' z => cmpBack_of z
/-- x in y, y an instance of C, by C's own method -/
def rOwnIn (C : Addr) (sp : Sp) : R2 := fun x y H Q => ∃ b dx fs, y = .ref b ∧ H b = some (.ins C dx fs) ∧ sp [.ref b, x] H (fun v H' => ∃ k, v = .bl k ∧ Q (.bl k) H') E0
theorem op_ownIn (hs : Meth X.K C "__contains__" f) (G : Kn X.prog X.w X.K X.mg X.base k f ps sp) (hr : Room k X.A) : OpR X (compareOp .In) (rOwnIn C sp) := by
  intro pins s σ H x y v u Q I rx ry h
  obtain ⟨b, dx, fs, rfl, hb, q⟩ := h
  cases ry
  obtain ⟨od, J⟩ := ins_at I hb
  obtain ⟨m', F⟩ := I.fr
  obtain ⟨fd, Fn, bd⟩ := G.ex
  refine PySem.W.in_K F I.ok.mod.kin J hs.at_ hs.fn ?_
  refine thn (run_fn (Q := fun v H' => ∃ k, v = .bl k ∧ Q (.bl k) H') (us := [.ref b, v]) (vs := [.ref b, x]) Fn hr bd .nil pass0 I (.cons rfl (.cons rx .nil)) (by rw [List.append_nil]; exact q)) fun r s' z => ?_
  obtain ⟨w1, H', I', r', k1, e, q'⟩ := z
  subst e
  cases r'
  exact wpAny_truthy_bool ⟨.bl k1, H', I', rfl, q'⟩
/-- o[i] = v by C's own method -/
def rOwnSet (C : Addr) (sp : Sp) : TSet := fun o i v H Q => ∃ a dx fs, o = .ref a ∧ H a = some (.ins C dx fs) ∧ sp [.ref a, i, v] H (fun _ H' => Q H') E0
theorem set_own (hs : Meth X.K C "__setitem__" f) (hq : PySem.W.noSeq X.K C = true) (G : Kn X.prog X.w X.K X.mg X.base k f ps sp) (hr : Room k X.A) : PSet X (rOwnSet C sp) := by
  intro pins s σ H o i v ov iv u Q I ro ri rv h
  obtain ⟨a, dx, fs, rfl, ha, q⟩ := h
  cases ro
  obtain ⟨od, J⟩ := ins_at I ha
  obtain ⟨m', F⟩ := I.fr
  obtain ⟨fd, Fn, bd⟩ := G.ex
  refine PySem.W.ksp_setItem F I.ok.mod.kin J hq hs.at_ hs.fn ?_
  exact thn (run_fn (us := [.ref a, iv, u]) (vs := [.ref a, i, v]) Fn hr bd .nil pass0 I (.cons rfl (.cons ri (.cons rv .nil))) (by rw [List.append_nil]; exact q)) fun r s' ⟨w1, H', I', _, q'⟩ => ⟨H', I', q'⟩

/-! ### o.f as one target of several -/
def gFld (K : PySem.W.Frag) (ta : TE) (f : Str) : TG := fun v σ H Q => ta σ H fun x H1 => ∃ a C dx fs, x = .ref a ∧ H1 a = some (.ins C dx fs) ∧ Cls K C ∧ NoAttr K C f ∧ fs.length < 1000 ∧ Q σ (upd H1 a (.ins C dx (putF f v fs)))
theorem pg_fld {f : Str} (ha : PE X o ta)
    (hs : ∀ u, assign (.Attribute o f pos) X.env u = (do
      let ov ← holding [u] (eval o X.env)
      standAt pos.atName
      holding [u, ov] (setAttr ov f u)
      release [u, ov] []) := by intro _; rfl) : PG X (.Attribute o f pos) (gFld X.K ta f) := by
  refine ⟨fun pins s σ H v u Q I r h => ?_⟩
  rw [hs]
  refine wpAny_bind (wpAny_holding (thn (ha.run pins s σ H _ I h) fun ov s2 ⟨x, H2, I2, rx, a, C, dx, fs, ex, ea, c, n, l, q2⟩ => ?_))
  subst ex
  obtain rfl : ov = Value.ref a := rx
  refine wpAny_bind (wpAny_standAt (wpAny_bind (wpAny_holding (setattr_ok I2 ea c n l r fun s3 I3 => wpAny_release ⟨σ, _, I3, q2⟩))))

/-! ### a staticmethod's call, read off its class -/
theorem psm (hg2 : X.mg x = some (.ref C)) (r : ClX.CRead X.K C (.type "type")) (c : StaOf X.K C m p1 g) (G : Kn X.prog X.w X.K X.mg X.base k g ps sp) (hr : Room k X.A) (ha : PA X (e :: es) t) (hg : Gl X x := by rfl) {pl : Sem Bool} (hdb : (x == ("__debug__" : Str)) = false := by decide)
    (hst : starEach (e :: es) X.env = (false, eval e X.env) :: starEach es X.env := by rfl) (hpl : (backTo pos (starEach es X.env)).any (·.1) = false := by rfl)
    (ht : eval (.Call (.Attribute (.Name x p) m apos) (e :: es) [] pos) X.env = (do
      let ov ← eval (.Name x p) X.env
      standAt apos.atName
      let (f, first) ← holding [ov] (getMethod ov m pl)
      callWith pos f first (backTo pos (starEach (e :: es) X.env)) (backToKw pos (keywordEach [] X.env))) := by rfl) :
    PE X (.Call (.Attribute (.Name x p) m apos) (e :: es) [] pos) (tCall sp [] E0 t) := by
  refine ⟨fun pins s σ H Q I h => ?_⟩
  obtain ⟨rest, hp⟩ := c.rec_
  obtain ⟨fd, F, b⟩ := G.ex
  refine PySem.W.methodCall_KW (pl := pl) (ld_glob I hg hg2 ?_ hdb) ht
  refine PySem.W.method_cls I.kIn r.ga (PySem.W.cls_bind I.kIn r.rd c.at_ (wpAny_call (PySem.W.sm_get (s := { s with toks := s.toks + 1 }) I.kIn hp (PySem.W.handed_on rfl ?_))))
  have I1 := I.tok (s.toks + 1)
  refine PySem.W.callWith_K (h₀ := X.base) I.ok.mod.kin G.kp (thn (ha.run pos pins _ σ H _ I1 h) fun us s1 ⟨vs, H1, I2, rv, q⟩ => ⟨I2.kIn, ?_⟩) hst hpl
  exact run_fn F hr b .nil pass0 I2 rv q

/-! ### an instance called -/
theorem fnR_of (G : Kn X.prog X.w X.K X.mg X.base k f ps sp) : FnR X.prog X.w X.K X.mg X.base CX0 k f sp := by
  obtain ⟨fd, F, b⟩ := G.ex
  intro A outer s H us vs Q E hr e0 r h
  have hl : (us ++ []).length = ps.length := by rw [List.append_nil, ← r.length]; exact F.len _ _ _ _ h
  have z := b s us (e0.mod.kin.keeps fun b o e => (e0.bs b o e).1) hl
  rw [List.append_nil] at z
  exact F.run A outer s H ⟨us, []⟩ us vs Q E hr e0 z r h
theorem pcO {fe : Expr} {tf : TE} (hf : PE X fe tf) (c : Meth X.K C "__call__" g) (fi : PySem.W.fnIn X.K g = true) (G : Kn X.prog X.w X.K X.mg X.base k g ps sp) (hr : Room k X.A) (ha : PA X (e :: es) t)
    (ht : eval (.Call fe (e :: es) [] pos) X.env = (do callWith pos (← eval fe X.env) [] (backTo pos (starEach (e :: es) X.env)) (backToKw pos (keywordEach [] X.env))) := by rfl)
    (he : starEach (e :: es) X.env = (false, eval e X.env) :: starEach es X.env := by rfl) (hpl : (backTo pos (starEach es X.env)).any (·.1) = false := by rfl) : PE X (.Call fe (e :: es) [] pos) (StX.tCallO X C sp E0 tf t) :=
  StX.pe_callO hf ⟨c.at_, c.fn, fi⟩ (fnR_of G) hr pass0 ha ht he hpl
end

/-! ### t[::-1] -/
section
variable {prog : Program} {w : World} {A : Around} {E : Value → Shared → Prop} {s : Shared}
theorem rev_adjust (n : Nat) : Builtin.Slice.sliceAdjust none none (-1) (n : Int) = ((n : Int) - 1, -1) := rfl
theorem rev_places (n : Nat) : Builtin.Slice.slicePlaces ((n : Int) - 1) (-1) (-1) = n := by
  show (if (-1 : Int) > 0 then _ else (if (n : Int) - 1 > -1 then ((n : Int) - 1 - -1 - 1) / (-(-1)) + 1 else 0)).toNat = n
  rw [if_neg (by decide)]
  by_cases h : n = 0
  · subst h
    rfl
  · rw [if_pos (by omega)]
    have e : (-(-1) : Int) = 1 := rfl
    rw [e, Int.ediv_one]
    omega
theorem fm_congr {α β : Type} {f g : α → Option β} : ∀ {l : List α}, (∀ m ∈ l, f m = g m) → l.filterMap f = l.filterMap g
  | [], _ => rfl
  | a :: l, h => by
    rw [List.filterMap_cons, List.filterMap_cons, h a List.mem_cons_self, fm_congr fun m hm => h m (List.mem_cons_of_mem _ hm)]
theorem rev_pick (xs : Array Value) : ((List.range xs.size).filterMap fun (m : Nat) => xs[(((xs.size : Nat) : Int) - 1 + (m : Int) * (-1)).toNat]?).toArray = xs.toList.reverse.toArray := by
  have e : (List.range xs.size).filterMap (fun (m : Nat) => xs[(((xs.size : Nat) : Int) - 1 + (m : Int) * (-1)).toNat]?) = ((List.range xs.size).map fun k => xs.size - 1 - k).filterMap (fun j => xs[j]?) := by
    rw [List.filterMap_map]
    refine fm_congr fun m hm => ?_
    have hm : m < xs.size := List.mem_range.mp hm
    have : (((xs.size : Nat) : Int) - 1 + (m : Int) * (-1)).toNat = xs.size - 1 - m := by omega
    rw [this]
    rfl
  rw [e, PySem.W.krv_range, List.filterMap_reverse, PySem.W.krv_all]
theorem slicePart_m1 {u : Tok} {Q : Option Int → Shared → Prop} (h : Q (some (-1)) s) : wpAny (model prog w) A (Builtin.Slice.slicePartIndex (.int (-1) u)) Q E s := HT.slicePart_ (.int (-1) u) h
theorem sliceApplied_rev {sl : Addr} {u : Tok} {n : Nat} {Q : Int × Int × Nat → Shared → Prop} (hs : s.heap.IsSliceOf sl .none .none (.int (-1) u)) (h : Q ((n : Int) - 1, -1, n) s) :
    wpAny (model prog w) A (Builtin.Slice.sliceApplied (.ref sl) (pure (n : Int))) Q E s := by
  obtain ⟨os, hos, hcs, hds⟩ := id hs
  unfold Builtin.Slice.sliceApplied Builtin.Slice.sliceFields
  refine wpAny_bind (wpAny_bind (wpAny_field hos hds (x := .none) rfl (wpAny_bind (wpAny_field hos hds (x := .none) rfl (wpAny_bind (wpAny_field hos hds (x := .int (-1) u) rfl (wpAny_pure ?_)))))))
  refine wpAny_bind (slicePart_m1 ?_)
  show wpAny _ _ (if ((-1 : Int) == 0) = true then _ else _) _ _ s
  rw [if_neg (by decide)]
  refine wpAny_bind (slicePart_none (wpAny_bind (slicePart_none (wpAny_bind (wpAny_pure ?_)))))
  show wpAny _ _ (pure ((n : Int) - 1, (-1 : Int), Builtin.Slice.slicePlaces ((n : Int) - 1) (-1) (-1))) _ _ s
  rw [rev_places]
  exact wpAny_pure h
theorem getItem_tuple_rev {t sl : Addr} {items : Array Value} {u : Tok} {Q : Value → Shared → Prop} (ht : IsTup s.heap t items) (hs : s.heap.IsSliceOf sl .none .none (.int (-1) u))
    (h : Q (.ref s.heap.objs.size) { s with heap := s.heap.push { cls := .type "tuple", data := .seq items.toList.reverse.toArray } }) (hsz : items.size ≤ sizeLine) : wpAny (model prog w) A (getItem (.ref t) (.ref sl)) Q E s := by
  have hz : sizeOk (.seq items.toList.reverse.toArray) := by
    show items.toList.reverse.toArray.size ≤ sizeLine
    rw [List.size_toArray, List.length_reverse, Array.length_toList]
    exact hsz
  obtain ⟨os, hos, hcs, hds⟩ := id hs
  have hTs : s.TypeIs (.ref sl) "slice" := ⟨os, hos, hcs⟩
  unfold getItem
  try with_reducible refine wpAny_holding ?_
  first | refine wpAny_bind (wpAny_pure ?_) | skip
  refine wpAny_bind (wpAny_sequenceKey ht.typeIs (by decide) ?_)
  refine wpAny_bind (wpAny_callSpecial?_slot (name := Str.ofString "__getitem__") ht.typeIs PyProof.Rows.slot_tuple_getitem
    (wpAny_call_entry PyProof.Rows.slot_tuple_getitem ht.typeIs entry_tuple_getitem ?_ (args_tuple_getitem _ _)))
  show wpAny _ _ (Builtin.Tuple.tupleItemsOf (.ref t) >>= _) _ _ s
  refine wpAny_bind (tupleItemsOf_ ht ?_)
  refine wpAny_bind (wpAny_typeOf hTs ?_)
  rw [if_pos (by decide)]
  refine wpAny_bind (sliceApplied_rev hs ?_)
  have hno : ¬ ((((items.size : Nat) : Int) - 1 == 0 && (-1 : Int) == 1 && items.size == items.size) = true) := by
    rw [show ((-1 : Int) == 1) = false from rfl, Bool.and_false, Bool.false_and]
    decide
  show wpAny _ _ (if (((items.size : Nat) : Int) - 1 == 0 && (-1 : Int) == 1 && items.size == items.size) = true then _ else _) _ _ s
  rw [if_neg hno, rev_pick]
  first
    | exact wpAny_bind (m := Builtin.Tuple.tupleExact _) (wpAny_newObj_type (wpAny_pure ⟨_, rfl, wpAny_pure h⟩) hz)
    | exact wpAny_bind (m := Builtin.Tuple.tupleExact _) (wpAny_newObj_type (wpAny_bind (wpAny_pure (wpAny_pure ⟨_, rfl, wpAny_pure h⟩))) hz)
end
section
variable {X : Cx}
def tRevT (K : PySem.W.Frag) (te : TE) : TE := fun σ H Q => te σ H fun x H1 => ∃ a xs, x = .ref a ∧ SqT K H1 a xs ∧ ∀ p, H1 p = none → Q (.ref p) (upd H1 p (.tup xs.reverse))
theorem pe_revT {e : Expr} {te : TE} {k : Nat} {p1 p2 p3 pos : Pos} (he : PE X e te) : PE X (.Subscript e (.Slice none none (some (.UnaryOp .USub (.Constant (.int 1) k p1) p2)) p3) pos) (tRevT X.K te) := by
  refine ⟨fun pins s σ H Q I h => ?_⟩
  refine Subscript_ (thn (he.run pins s σ H _ I h) fun v s1 ⟨x, H1, I1, r1, a, xs, ex, hx, q⟩ => ?_)
  subst ex
  cases r1
  have hst : PO X (some (.UnaryOp .USub (.Constant (.int 1) k p1) p2)) (tPart (tUn (rU fun i => .int (-i)) (tC (.int 1)))) := po_some (pe_un un_neg pe_int)
  refine wpAny_Slice (thn (po_none.run pins s1 σ H1 (fun o H2 => o = none ∧ H2 = H1) I1 ⟨rfl, rfl⟩) fun vl s2 ⟨l, H2, I2, pl, el, e2⟩ => ?_)
  subst el e2
  refine thn (po_none.run pins s2 σ H2 (fun o H3 => o = none ∧ H3 = H2) I2 ⟨rfl, rfl⟩) fun vu s3 ⟨u, H3, I3, pu, eu, e3⟩ => ?_
  subst eu e3
  refine thn (hst.run pins s3 σ H3 (fun o H4 => o = some (-1) ∧ H4 = H3) I3 ⟨1, rfl, -1, rfl, rfl, rfl⟩) fun vs s4 ⟨o, H4, I4, pst, eo, e4⟩ => ?_
  subst eo e4
  cases pl
  cases pu
  cases pst with
  | int i tk =>
  have I5 : Inv X pins σ H4 { s4 with heap := s4.heap.push { cls := .type "slice", data := .fields #[.none, .none, .int (-1) tk] } } := I4.kept (t' := s4.toks) fun b ob q => Heap.get?_push_of_some _ q
  obtain ⟨its, r, ht, hz⟩ := I5.tuple hx
  have hlen := r.length
  show wpAny (model X.prog X.w) X.A (subscriptTail e (.Slice none none (some (.UnaryOp .USub (.Constant (.int 1) k p1) p2)) p3) (.ref a) (.ref s4.heap.objs.size)) (EP X pins σ Q) X.xe { s4 with heap := s4.heap.push { cls := .type "slice", data := .fields #[.none, .none, .int (-1) tk] } }
  refine tail_any (ops := [.ref a, .ref s4.heap.objs.size]) ht.typeIs (PyProof.Rows.slot_tuple_getitem.lookup) ?_ (by with_unfolding_all rfl)
  refine getItem_tuple_rev ht (Heap.IsSliceOf.new _ .none .none (.int (-1) tk)) ?_ (by rw [List.size_toArray]; omega)
  refine ⟨.ref _, _, I5.laid (t' := s4.toks) (o := .tup xs.reverse) (fun b ob q => Heap.get?_push_of_some _ q) (Nat.le_refl _) ?_, rfl, q _ (I5.hok.fresh (Nat.le_refl _))⟩
  exact ⟨by rw [List.length_reverse]; exact hz, its.reverse, r.reverse, ⟨_, Heap.get?_push_size _ rfl, rfl, _, rfl⟩⟩
end
end K98

/-! S5Data: pairs and forms as data; builtins, operators by data. -/
namespace K98
open PySem PySem.Spec PyProof.Rows L2

def encP (p : P2) : D := .tup [.int p.1, .int p.2]
def encF (f : List P2) : D := .tup (f.map encP)

section
variable {K : PySem.W.Frag} {σ : L2.St} {I H : Hp} {ta tb te : TE} {d : D}
/-! ### builtins -/
theorem rc_sum {ns : List Int} : RcD K (rSum K) [.lst (ns.map D.int)] (.int ns.sum) := fun xs I H s a Q q => by
  cases a with
  | cons a1 a2 =>
    cases a2
    cases a1 with
    | lst h1 h2 =>
      have e := AtL.ints ns h2
      subst e
      exact ⟨_, ns, rfl, .of (s _ _ h1), q _ I H (.refl s) (.int _)⟩
theorem rc_all {bs : List Bool} : RcD K (rAll K) [.lst (bs.map D.bl)] (.bl (bs.all id)) := fun xs I H s a Q q => by
  cases a with
  | cons a1 a2 =>
    cases a2
    cases a1 with
    | lst h1 h2 =>
      have e := AtL.bls bs h2
      subst e
      exact ⟨_, bs, rfl, .of (s _ _ h1), q _ I H (.refl s) (.bl _)⟩
theorem rc_any {bs : List Bool} : RcD K (rAny K) [.lst (bs.map D.bl)] (.bl (bs.any id)) := fun xs I H s a Q q => by
  cases a with
  | cons a1 a2 =>
    cases a2
    cases a1 with
    | lst h1 h2 =>
      have e := AtL.bls bs h2
      subst e
      exact ⟨_, bs, rfl, .of (s _ _ h1), q _ I H (.refl s) (.bl _)⟩
theorem rc_max2 {i j : Int} : RcD K (fun xs H Q => ∃ i j, xs = [.int i, .int j] ∧ Q (.int (if j > i then j else i)) H) [.int i, .int j] (.int (if j > i then j else i)) := fun xs I H s a Q q => by
  cases a with
  | cons a1 a2 =>
    cases a2 with
    | cons a2 a3 =>
      cases a3
      cases a1
      cases a2
      exact ⟨i, j, rfl, q _ I H (.refl s) (.int _)⟩
theorem rc_abs {i : Int} : RcD K (fun xs H Q => ∃ i, xs = [.int i] ∧ Q (.int (if i < 0 then -i else i)) H) [.int i] (.int (if i < 0 then -i else i)) := fun xs I H s a Q q => by
  cases a with
  | cons a1 a2 =>
    cases a2
    cases a1
    exact ⟨i, rfl, q _ I H (.refl s) (.int _)⟩
theorem rc_int {i : Int} : RcD K (fun xs H Q => (∃ i, xs = [.int i] ∧ Q (.int i) H) ∨ ∃ k, xs = [.bl k] ∧ Q (.int (if k then 1 else 0)) H) [.int i] (.int i) := fun xs I H s a Q q => by
  cases a with
  | cons a1 a2 =>
    cases a2
    cases a1
    exact .inl ⟨i, rfl, q _ I H (.refl s) (.int _)⟩
theorem rc_intB {b : Bool} : RcD K (fun xs H Q => (∃ i, xs = [.int i] ∧ Q (.int i) H) ∨ ∃ k, xs = [.bl k] ∧ Q (.int (if k then 1 else 0)) H) [.bl b] (.int (if b then 1 else 0)) := fun xs I H s a Q q => by
  cases a with
  | cons a1 a2 =>
    cases a2
    cases a1
    exact .inr ⟨b, rfl, q _ I H (.refl s) (.int _)⟩
theorem rc_lenL {ds : List D} : RcD K (fun xs H Q => ∃ p ys, xs = [.ref p] ∧ (SqL K H p ys ∨ SqT K H p ys) ∧ Q (.int ys.length) H) [.lst ds] (.int ds.length) := fun xs I H s a Q q => by
  cases a with
  | cons a1 a2 =>
    cases a2
    cases a1 with
    | lst h1 h2 => exact ⟨_, _, rfl, .inl (.of (s _ _ h1)), q _ I H (.refl s) (by rw [h2.length]; exact .int _)⟩
theorem rc_lenT {ds : List D} : RcD K (fun xs H Q => ∃ p ys, xs = [.ref p] ∧ (SqL K H p ys ∨ SqT K H p ys) ∧ Q (.int ys.length) H) [.tup ds] (.int ds.length) := fun xs I H s a Q q => by
  cases a with
  | cons a1 a2 =>
    cases a2
    cases a1 with
    | tup h1 h2 => exact ⟨_, _, rfl, .inr ((sub_le s).t h1), q _ I H (.refl s) (by rw [h2.length]; exact .int _)⟩
theorem rc_tupL {ds : List D} : RcD K (fun xs H Q => ∃ a ys, xs = [.ref a] ∧ ((SqL K H a ys ∧ ∀ l, H l = none → Q (.ref l) (upd H l (.tup ys))) ∨ (SqT K H a ys ∧ Q (.ref a) H))) [.lst ds] (.tup ds) := fun xs I H s a Q q => by
  cases a with
  | cons a1 a2 =>
    cases a2
    cases a1 with
    | lst h1 h2 => exact ⟨_, _, rfl, .inl ⟨.of (s _ _ h1), fun l hl => q _ (upd I l _) _ (.new s hl) (at_tup h2 (sub_free s hl))⟩⟩
theorem rc_tupT {ds : List D} : RcD K (fun xs H Q => ∃ a ys, xs = [.ref a] ∧ ((SqL K H a ys ∧ ∀ l, H l = none → Q (.ref l) (upd H l (.tup ys))) ∨ (SqT K H a ys ∧ Q (.ref a) H))) [.tup ds] (.tup ds) := fun xs I H s a Q q => by
  cases a with
  | cons a1 a2 =>
    cases a2
    have a0 := a1
    cases a1 with
    | tup h1 h2 => exact ⟨_, _, rfl, .inr ⟨(sub_le s).t h1, q _ I H (.refl s) a0⟩⟩
theorem rc_listL {ds : List D} : RcD K (fun xs H Q => ∃ p ys, xs = [.ref p] ∧ (SqL K H p ys ∨ SqT K H p ys) ∧ ∀ l, H l = none → Q (.ref l) (upd H l (.lst ys))) [.lst ds] (.lst ds) := fun xs I H s a Q q => by
  cases a with
  | cons a1 a2 =>
    cases a2
    cases a1 with
    | lst h1 h2 => exact ⟨_, _, rfl, .inl (.of (s _ _ h1)), fun l hl => q _ (upd I l _) _ (.new s hl) (at_lst h2 (sub_free s hl))⟩
/-! ### operators -/
theorem rd_ixT {ds : List D} {i : Int} {d : D} (h : atI ds i = some d) : RvD K (rIxT K) (.tup ds) (.int i) d := fun x y I H s hx hy Q q => by
  cases hy
  cases hx with
  | tup h1 h2 =>
    unfold atI at h
    rw [← h2.length] at h
    obtain ⟨j, hj, e⟩ := Option.bind_eq_some_iff.mp h
    obtain ⟨v, hv, av⟩ := h2.get e
    exact ⟨_, _, i, v, rfl, rfl, (sub_le s).t h1, by unfold atI; rw [hj]; exact hv, q v I H (.refl s) av⟩
theorem rd_ixL {ds : List D} {i : Int} {d : D} (h : atI ds i = some d) : RvD K (rIxL K) (.lst ds) (.int i) d := fun x y I H s hx hy Q q => by
  cases hy
  cases hx with
  | lst h1 h2 =>
    unfold atI at h
    rw [← h2.length] at h
    obtain ⟨j, hj, e⟩ := Option.bind_eq_some_iff.mp h
    obtain ⟨v, hv, av⟩ := h2.get e
    exact ⟨_, _, i, v, rfl, rfl, .of (s _ _ h1), by unfold atI; rw [hj]; exact hv, q v I H (.refl s) av⟩
/-! ### comprehensions over pairs -/
theorem ed_lcP {wi : TI} {tt : TT} {vs : List Nat} {j k : Nat} (xs : List P2) (b : P2 → Bool) (f : P2 → D) (hw : EvI K wi σ I H (xs.map encP)) (hz : xs.length < 100000)
    (hb : ∀ p ∈ xs, ∀ I1 H1, Gr [] I H I1 H1 → wipe (((wipe σ vs).set j (some (.int p.1))).set k (some (.int p.2))) vs = wipe σ vs ∧ EvB tt (((wipe σ vs).set j (some (.int p.1))).set k (some (.int p.2))) I1 H1 (b p) ∧
      (b p = true → EvD K te (((wipe σ vs).set j (some (.int p.1))).set k (some (.int p.2))) I1 H1 (f p))) :
    EvD K (tLc wi (gTup K 2 (gCons (gName j) (gCons (gName k) gNil))) tt te vs) σ I H (.lst ((xs.filter b).map f)) :=
  ed_lc xs encP b f (fun p σ2 I => ∃ x y, At K I x (.int p.1) ∧ At K I y (.int p.2) ∧ σ2 = ((wipe σ vs).set j (some x)).set k (some y)) hw hz (fun p => bd_pair) fun p hp σ2 I1 H1 g ⟨x, y, ax, ay, e⟩ => by
    cases ax
    cases ay
    subst e
    exact hb p hp I1 H1 g
theorem eb_yes : EvB tYes σ I H true := fun I1 H1 g Q q => q I1 H1 (.refl g.sub)
theorem filter_yes {α : Type} (xs : List α) : xs.filter (fun _ => true) = xs := List.filter_eq_self.mpr fun _ _ => rfl
/-- numbers out of pairs -/
theorem ed_lcPI {wi : TI} {vs : List Nat} {j k : Nat} (xs : List P2) (f : P2 → Int) (hw : EvI K wi σ I H (xs.map encP)) (hz : xs.length < 100000)
    (hv : ∀ p ∈ xs, wipe (((wipe σ vs).set j (some (.int p.1))).set k (some (.int p.2))) vs = wipe σ vs)
    (hb : ∀ p ∈ xs, ∀ I1 H1, Gr [] I H I1 H1 → EvD K te (((wipe σ vs).set j (some (.int p.1))).set k (some (.int p.2))) I1 H1 (.int (f p))) :
    EvD K (tLc wi (gTup K 2 (gCons (gName j) (gCons (gName k) gNil))) tYes te vs) σ I H (.lst ((xs.map f).map D.int)) := by
  have h := ed_lcP (te := te) xs (fun _ => true) (fun p => .int (f p)) hw hz fun p hp I1 H1 g => ⟨hv p hp, eb_yes, fun _ => hb p hp I1 H1 g⟩
  rw [filter_yes] at h
  rw [List.map_map]
  exact h
/-- numbers out of some pairs -/
theorem ed_lcPF {wi : TI} {tt : TT} {vs : List Nat} {j k : Nat} (xs : List P2) (b : P2 → Bool) (f : P2 → Int) (hw : EvI K wi σ I H (xs.map encP)) (hz : xs.length < 100000)
    (hb : ∀ p ∈ xs, ∀ I1 H1, Gr [] I H I1 H1 → wipe (((wipe σ vs).set j (some (.int p.1))).set k (some (.int p.2))) vs = wipe σ vs ∧ EvB tt (((wipe σ vs).set j (some (.int p.1))).set k (some (.int p.2))) I1 H1 (b p) ∧
      (b p = true → EvD K te (((wipe σ vs).set j (some (.int p.1))).set k (some (.int p.2))) I1 H1 (.int (f p)))) :
    EvD K (tLc wi (gTup K 2 (gCons (gName j) (gCons (gName k) gNil))) tt te vs) σ I H (.lst (((xs.filter b).map f).map D.int)) := by
  rw [List.map_map]
  exact ed_lcP xs b (fun p => .int (f p)) hw hz hb
/-- pairs out of some pairs -/
theorem ed_lcPP {wi : TI} {tt : TT} {vs : List Nat} {j k : Nat} (xs : List P2) (b : P2 → Bool) (f : P2 → P2) (hw : EvI K wi σ I H (xs.map encP)) (hz : xs.length < 100000)
    (hb : ∀ p ∈ xs, ∀ I1 H1, Gr [] I H I1 H1 → wipe (((wipe σ vs).set j (some (.int p.1))).set k (some (.int p.2))) vs = wipe σ vs ∧ EvB tt (((wipe σ vs).set j (some (.int p.1))).set k (some (.int p.2))) I1 H1 (b p) ∧
      (b p = true → EvD K te (((wipe σ vs).set j (some (.int p.1))).set k (some (.int p.2))) I1 H1 (encP (f p)))) :
    EvD K (tLc wi (gTup K 2 (gCons (gName j) (gCons (gName k) gNil))) tt te vs) σ I H (.lst (((xs.filter b).map f).map encP)) := by
  rw [List.map_map]
  exact ed_lcP xs b (fun p => encP (f p)) hw hz hb
/-! ### slices, stars, zip, reversed -/
def EvO (to : TO) (σ : L2.St) (I H : Hp) (o : Option Int) : Prop := ∀ I1 H1, Gr [] I H I1 H1 → ∀ Q : Option Int → Hp → Prop, (∀ I2 H2, Gr [] I1 H1 I2 H2 → Q o H2) → to σ H1 Q
theorem eo_none : EvO tNoPart σ I H none := fun I1 H1 g Q q => q I1 H1 (.refl g.sub)
theorem eo_some {i : Int} (h : EvD K te σ I H (.int i)) : EvO (tPart te) σ I H (some i) := fun I1 H1 g Q q => h I1 H1 g _ fun v I2 H2 g2 a => by
  cases a
  exact ⟨i, rfl, q I2 H2 g2⟩
def cutD (ds : List D) (lo hi : Option Int) : List D := (ds.drop (HT.sIx ds.length 0 lo)).take (HT.sIx ds.length ds.length hi - HT.sIx ds.length 0 lo)
theorem cutD_drop {ds : List D} (n : Nat) : cutD ds (some (n : Int)) none = ds.drop n := by
  unfold cutD
  rw [HT.sIx_nat, HT.sIx_none]
  by_cases h : n ≤ ds.length
  · rw [Nat.min_eq_left h, List.take_of_length_le (by rw [List.length_drop]; exact Nat.le_refl _)]
  · rw [Nat.min_eq_right (by omega), List.drop_eq_nil_of_le (Nat.le_refl _), List.drop_eq_nil_of_le (by omega), List.take_nil]
theorem cutD_take {ds : List D} (n : Nat) : cutD ds none (some (n : Int)) = ds.take n := by
  unfold cutD
  rw [HT.sIx_nat, HT.sIx_none, List.drop_zero, Nat.sub_zero]
  by_cases h : n ≤ ds.length
  · rw [Nat.min_eq_left h]
  · rw [Nat.min_eq_right (by omega), List.take_of_length_le (Nat.le_refl _), List.take_of_length_le (by omega)]
theorem ed_slL {tl th : TO} {ds : List D} {lo hi : Option Int} (h : EvD K te σ I H (.lst ds)) (h1 : EvO tl σ I H lo) (h2 : EvO th σ I H hi) : EvD K (tSl (rSlL K) te tl th) σ I H (.lst (cutD ds lo hi)) := fun I1 H1 g Q q =>
  h I1 H1 g _ fun v I2 H2 g2 a => h1 I2 H2 (g.tr g2) _ fun I3 H3 g3 => h2 I3 H3 ((g.tr g2).tr g3) _ fun I4 H4 g4 => by
    cases a with
    | lst k1 k2 =>
      have g24 := g3.tr g4
      refine ⟨_, _, rfl, .of (g4.sub _ _ (g24.le.lst _ _ k1)), fun p hp => q _ (upd I4 p _) _ ((g2.tr g24).tr (.new g4.sub hp)) (at_lst ?_ (sub_free g4.sub hp))⟩
      unfold cutV cutD
      rw [k2.length]
      exact ((k2.gr g24).drop _).take _
theorem ea_starL {ts : TE} {tr : TA} {ds es : List D} (h : EvD K ts σ I H (.lst ds)) (hr : EvA K tr σ I H es) : EvA K (StX.tStar K ts tr) σ I H (ds ++ es) := fun I1 H1 g Q q =>
  h I1 H1 g _ fun v I2 H2 g2 a => by
    cases a with
    | lst k1 k2 => exact ⟨_, _, rfl, .inr (.of (g2.sub _ _ k1)), hr I2 H2 (g.tr g2) _ fun vs I3 H3 g3 as => q _ I3 H3 (g2.tr g3) ((k2.gr g3).append as)⟩
theorem ea_starT {ts : TE} {tr : TA} {ds es : List D} (h : EvD K ts σ I H (.tup ds)) (hr : EvA K tr σ I H es) : EvA K (StX.tStar K ts tr) σ I H (ds ++ es) := fun I1 H1 g Q q =>
  h I1 H1 g _ fun v I2 H2 g2 a => by
    cases a with
    | tup k1 k2 => exact ⟨_, _, rfl, .inl ((sub_le g2.sub).t k1), hr I2 H2 (g.tr g2) _ fun vs I3 H3 g3 as => q _ I3 H3 (g2.tr g3) ((k2.gr g3).append as)⟩
theorem ed_revT {ds : List D} (h : EvD K te σ I H (.tup ds)) : EvD K (tRevT K te) σ I H (.tup ds.reverse) := fun I1 H1 g Q q =>
  h I1 H1 g _ fun v I2 H2 g2 a => by
    cases a with
    | tup k1 k2 => exact ⟨_, _, rfl, (sub_le g2.sub).t k1, fun p hp => q _ (upd I2 p _) _ (g2.tr (.new g2.sub hp)) (at_tup k2.reverse (sub_free g2.sub hp))⟩
theorem ed_revL {ds : List D} (h : EvD K te σ I H (.lst ds)) : EvD K (tRevL K te) σ I H (.lst ds.reverse) := fun I1 H1 g Q q =>
  h I1 H1 g _ fun v I2 H2 g2 a => by
    cases a with
    | lst k1 k2 => exact ⟨_, _, rfl, .of (g2.sub _ _ k1), fun p hp => q _ (upd I2 p _) _ (g2.tr (.new g2.sub hp)) (at_lst k2.reverse (sub_free g2.sub hp))⟩
theorem itz_D {a b : Addr} {xs ys : List V} {ds es : List D} (hx : I a = some (.lst xs)) (hy : I b = some (.lst ys)) (ax : AtL K I xs ds) (ay : AtL K I ys es) : ItD K (Itz K a b) I ((ds.zip es).map fun z => D.tup [z.1, z.2]) := by
  have get : ∀ {i : Nat} {d : D}, ((ds.zip es).map fun z => D.tup [z.1, z.2])[i]? = some d → ∃ d1 d2, ds[i]? = some d1 ∧ es[i]? = some d2 ∧ d = .tup [d1, d2] := fun {i d} e => by
    rw [List.getElem?_map] at e
    obtain ⟨z, hz, rfl⟩ := Option.map_eq_some_iff.mp e
    rw [List.getElem?_zip_eq_some] at hz
    exact ⟨z.1, z.2, hz.1, hz.2, rfl⟩
  refine ⟨fun i d I3 H3 le s e => ?_, fun i d I3 H3 x H4 le s e y => ?_, fun I3 H3 le s => ?_⟩
  · obtain ⟨d1, d2, e1, e2, _⟩ := get e
    obtain ⟨v, hv, _⟩ := ax.get e1
    obtain ⟨w, hw, _⟩ := ay.get e2
    exact ⟨_, _, v, w, .of (s _ _ (le _ _ hx)), .of (s _ _ (le _ _ hy)), hv, hw⟩
  · obtain ⟨d1, d2, e1, e2, rfl⟩ := get e
    obtain ⟨v, hv, av⟩ := ax.get e1
    obtain ⟨w, hw, aw⟩ := ay.get e2
    obtain ⟨T, x1, y1, rfl, hT, rfl, z1, z2⟩ := y
    have q1 := z1 _ (.of (s _ _ (le _ _ hx)))
    have q2 := z2 _ (.of (s _ _ (le _ _ hy)))
    rw [hv] at q1
    rw [hw] at q2
    cases q1
    cases q2
    exact ⟨upd I3 T _, .new s hT, at_tup (.cons (At.le le.le _ av) (.cons (At.le le.le _ aw) .nil)) (sub_free s hT)⟩
  · refine ⟨_, _, .of (s _ _ (le _ _ hx)), .of (s _ _ (le _ _ hy)), ?_⟩
    rw [List.length_map, List.length_zip, ax.length, ay.length]
    omega
theorem ei_zip {ta : TA} {ds es : List D} (h : EvA K ta σ I H [.lst ds, .lst es]) : EvI K (iZip K ta) σ I H ((ds.zip es).map fun z => D.tup [z.1, z.2]) := fun I1 H1 g R q =>
  h I1 H1 g _ fun vs I2 H2 g2 as => by
    obtain ⟨v, u, rfl, av, au⟩ := as.two
    cases av with
    | lst k1 k2 =>
      cases au with
      | lst k3 k4 => exact ⟨_, _, _, _, rfl, .of (g2.sub _ _ k1), .of (g2.sub _ _ k3), q _ I2 H2 g2 (itz_D k1 k3 k2 k4)⟩
/-! ### + -/
theorem rd_catA {ds es : List D} (hz : ds.length + es.length ≤ 100000) : RvD K (rCatA K) (.tup ds) (.tup es) (.tup (ds ++ es)) := fun x y I H s hx hy Q q => by
  have hx0 := hx
  have hy0 := hy
  cases hx with
  | tup k1 k2 =>
    cases hy with
    | tup k3 k4 =>
      refine ⟨_, _, _, _, rfl, rfl, (sub_le s).t k1, (sub_le s).t k3, ?_, ?_⟩
      · rw [k2.length, k4.length]
        exact Nat.le_trans hz (by decide)
      · refine ⟨fun e => ?_, fun e1 e2 => ?_, fun e1 e2 p hp => q _ (upd I p _) _ (.new s hp) (at_tup (k2.append k4) (sub_free s hp))⟩
        · subst e
          cases k2
          exact q _ I H (.refl s) hy0
        · subst e2
          cases k4
          exact q _ I H (.refl s) (by rw [List.append_nil]; exact hx0)
theorem rd_catL {ds es : List D} (hz : ds.length + es.length ≤ 100000) : RvD K rCat (.lst ds) (.lst es) (.lst (ds ++ es)) := fun x y I H s hx hy Q q => by
  cases hx with
  | lst k1 k2 =>
    cases hy with
    | lst k3 k4 =>
      refine ⟨_, _, _, _, rfl, rfl, s _ _ k1, s _ _ k3, ?_, fun p hp => q _ (upd I p _) _ (.new s hp) (at_lst (k2.append k4) (sub_free s hp))⟩
      rw [k2.length, k4.length]
      exact Nat.le_trans hz (by decide)
/-! ### return tuple(xs), the list beside what is known -/
theorem sx_rtup {i : Nat} {l : Addr} {ys : List V} {ds : List D} {Dn : Ends} {I0 H0 : Hp} (g : Gr [] I0 H0 I H) (n0 : H0 l = none) (hv : σ[i]? = some (some (.ref l))) (hl : H l = some (.lst ys)) (nl : I l = none) (as : AtL K I ys ds)
    (q : ∀ v I' H', Gr [] I0 H0 I' H' → At K I' v (.tup ds) → Dn.rt v H') :
    tRet (tCB (fun xs H Q => ∃ a ys, xs = [.ref a] ∧ ((SqL K H a ys ∧ ∀ l, H l = none → Q (.ref l) (upd H l (.tup ys))) ∨ (SqT K H a ys ∧ Q (.ref a) H))) (tCons (tVar i) tNil)) Dn σ H :=
  ⟨.ref l, hv, l, ys, rfl, .inl ⟨.of hl, fun p hp => q _ (upd I p _) _ (g.tr (.new g.sub hp)) (at_tup as (sub_free g.sub hp))⟩⟩
end
end K98

/-! S5Set: set(a list of ints), as an object of the set's table (the layer has it of a tuple). -/
namespace K98
open PySem PySem.Spec PyProof.Rows L2
section
variable {P : Program} {w : World} {A : Around} {E : Value → Shared → Prop} {s : Shared}
/-- the new, bare set -/
abbrev set0 (w : World) : Obj := { cls := .type "set", dict := none, data := .set #[] 0 (.fresh 0 0 (!w.params.followText "set-order")) }
set_option maxHeartbeats 8000000 in
theorem call_set_lstI {l : Addr} {items : Array Value} (ns : List Int) {Q : Value → Shared → Prop} (hh : A.handled = none) (hl : s.heap.IsList l items) (hit : IntsAre items.toList ns) (hb : ns.length + 1 < scanBound)
    (h : ∀ (h' : Heap) (tk c : Nat), SetR w h' s.heap.objs.size (fun j => decide (j ∈ ns)) c → c ≤ ns.length → (∀ b o, s.heap.get? b = some o → h'.get? b = some o) → Q (.ref s.heap.objs.size) { s with heap := h', toks := tk }) :
    wpAny (model P w) A (call (.type "set") [.ref l]) Q E s := by
  have hisz : items.size = ns.length := by rw [← Array.length_toList]; exact IntsAre.length hit
  obtain ⟨c, tl, hmro⟩ := F.called_set.mro
  have hmade := F.called_set.made
  have hsub := F.called_set.sub
  refine wpAny_call (codeAny_of_tree ?_)
  show wpAny _ _ (callAny (.type "set") _) _ _ _
  refine wpAny_pure ⟨Code.quiet_builtin _ (by decide +kernel), codeAny_builtin F.entry_type_call ?_⟩
  rw [Around.under_plain (weight_type_call_type "set" [.ref l] []) rfl]
  have h1 := F.called_set.notType
  have h2 := F.called_set.canCreate
  have hct := F.typeCall_set_1 (.ref l)
  repeat (any_goals (first | assumption | wp_step))
  refine codeAny_mono (code_set_led1 (.ref l) (E := E) (Q₁ := fun obj s₁ => obj = .ref s.heap.objs.size ∧ s₁ = { s with heap := s.heap.push (set0 w) }) ⟨rfl, rfl⟩) fun r s₁ hr => ?_
  cases r with
  | error e => exact hr
  | ok fl =>
    cases fl with
    | ret obj =>
      obtain ⟨rfl, rfl⟩ := hr
      have hS : (s.heap.push (set0 w)).get? s.heap.objs.size = some (set0 w) := Heap.get?_push_size _ rfl
      have hT : Shared.TypeIs { s with heap := s.heap.push (set0 w) } (.ref s.heap.objs.size) "set" := ⟨_, hS, rfl⟩
      have hli := F.called_set.init.lookup
      have hbi := F.called_set.init.bind (.ref s.heap.objs.size)
      repeat (any_goals (first | assumption | wp_step))
      refine codeAny_mono (codeAny_call_builtin (R := wants (fun r s₂ => r = .none ∧ ∃ h' tk c, s₂ = { s with heap := h', toks := tk } ∧ SetR w h' s.heap.objs.size (fun j => decide (j ∈ ns)) c ∧ c ≤ ns.length ∧
          (∀ b o, s.heap.get? b = some o → h'.get? b = some o)) E) F.called_set.init.plain F.entry_set_init (check_set_init_1 hT ?_)) fun r₂ s₂ hr₂ => ?_
      · obtain ⟨ol, hol, hcl, nl, hdl⟩ := hl
        obtain ⟨ocls, odict, odata, oslots⟩ := ol
        simp only at hcl hdl
        subst hcl; subst hdl
        have hol' : (s.heap.push (set0 w)).get? l = some { cls := .type "list", dict := odict, data := .seq items nl, slots := oslots } := Heap.get?_push_of_some _ hol
        have hsls := F.sub_list_set
        have hslf := F.sub_list_frozenset
        have hne : (Value.type "list" == Value.type "dict") = false := by decide
        have hl1 : (s.heap.push (set0 w)).IsList l items := ⟨_, hol', rfl, nl, rfl⟩
        unfold Builtin.«set.__init__» noKeywords Builtin.Frozenset.updateFrom
        generalize hPI : pyIter = PI
        wp_walk
        subst hPI
        refine wpAny_pyIter_list hl1 ?_
        refine wpAny_bind (wpAny_runValue ?_)
        have hlS : l < s.heap.objs.size := Heap.lt_size hol
        have hh3 : A.in1.in1.in1.handled = none := by simp [hh]
        have hneI : l ≠ (s.heap.push (set0 w)).objs.size := by
          rw [Heap.size_push]; exact Nat.ne_of_lt (Nat.lt_succ_of_lt hlS)
        have hSf : s.heap.objs.size ∉ [(s.heap.push (set0 w)).objs.size, l] := by
          rw [Heap.size_push]; simp only [List.mem_cons, List.mem_singleton, List.not_mem_nil, or_false, not_or]
          exact ⟨Nat.ne_of_lt (Nat.lt_succ_self _), Nat.ne_of_gt hlS⟩
        have hval : ∀ (i : Nat) (v : Value), items[i]? = some v → ∃ k t, ns[i]? = some k ∧ v = .int k t := fun i v hv => by
          have hi : i < ns.length := by rw [← hisz]; exact (Array.getElem?_eq_some_iff.mp hv).1
          obtain ⟨t, e⟩ := PyProof.Rows.IntsAre.int_at hit i v (by rw [Array.getElem?_toList]; exact hv)
          refine ⟨ns[i], t, List.getElem?_eq_getElem hi, ?_⟩
          rw [e, List.getD_eq_getElem?_getD, List.getElem?_eq_getElem hi] <;> rfl
        refine set_update_ints ((Walks.list hh3 _ l hneI items).toS) s.heap.objs.size
          hSf ns hisz hb hval (items.size - 0) 0 _ (by omega) (Nat.zero_le _)
          ⟨⟨_, Heap.get?_push_size _ rfl, rfl, rfl⟩, (hl1.push _)⟩ ?hS0 ?hR
        case hS0 =>
          exact ⟨0, Nat.le_refl 0, setR_new_at (Heap.get?_push_of_some _ hS)⟩
        case hR =>
          intro s' c' hm hc' hS'
          obtain ⟨h', g2, d', tk', os'⟩ := s'
          have eg : g2 = s.gens := hm.gens
          have ed : d' = s.drawn := hm.drawn
          have eo : os' = s.os := hm.os
          subst eg; subst ed; subst eo
          show wpAny _ _ _ _ _ _
          refine wpAny_pure ?_
          show wpAny _ _ (ret Value.none) _ _ _
          rw [hisz] at hc'
          refine wpAny_pure ⟨rfl, h', tk', c', rfl, hS', hc', fun b o e => ?_⟩
          have hb0 : b < s.heap.objs.size := Heap.lt_size e
          refine hm.heap b o ?_ (Heap.get?_push_of_some _ (Heap.get?_push_of_some _ e))
          rw [Heap.size_push]
          simp only [List.mem_cons, List.mem_singleton, List.not_mem_nil, or_false, not_or]
          exact ⟨Nat.ne_of_lt hb0, Nat.ne_of_lt (Nat.lt_succ_of_lt hb0)⟩
      · cases r₂ with
        | error e => exact hr₂
        | ok fl₂ =>
          cases fl₂ with
          | ret r =>
            obtain ⟨rfl, h', tk, c', rfl, hS', hc', hk'⟩ := hr₂
            repeat (any_goals (first | assumption | wp_step))
            exact h _ _ _ hS' hc' hk'
          | _ => exact hr₂.elim
    | _ => exact hr.elim
end
end K98

/-! S5More: comprehensions of two loops, sorted(set(..)), ends of bodies. -/
namespace K98
open PySem PySem.Spec PyProof.Rows L2

section
variable {X : Cx}
/-- set(xs), xs a list of ints -/
def rSetL (K : PySem.W.Frag) (w : World) : List V → Hp → VK → Prop := fun vs H Q => ∃ (l : Addr) (ns : List Int), vs = [.ref l] ∧ SqL K H l (ns.map V.int) ∧ ns.length < 1000 ∧ ∀ p c, H p = none → c ≤ ns.length → Q (.ref p) (upd H p (SetO w p (fun j => decide (j ∈ ns)) c))
theorem call_setL (hc : X.calm = true) : CallR X (.type "set") (rSetL X.K X.w) := by
  intro pins s σ H vs us Q I r h
  obtain ⟨l, ns, rfl, hs, hb, q⟩ := h
  rw [Vals.ref1 r]
  obtain ⟨its, rv, hl, hz⟩ := I.list hs
  have hi := ints_of_vals rv
  refine call_set_lstI (items := its.toArray) ns (I.ok.hd hc) hl.isList hi (by unfold scanBound; omega) fun h' tk c R hcn k => ?_
  exact ⟨.ref _, upd H s.heap.objs.size (SetO X.w s.heap.objs.size (fun j => decide (j ∈ ns)) c), I.laid (t' := tk) k (Nat.le_refl _) (setO_new R), rfl, q _ _ (I.hok.fresh (Nat.le_refl _)) hcn⟩
end
/-! ### a strictly rising list is told by its members -/
theorem rise_uniq : ∀ {a b : List Int}, a.Pairwise (· < ·) → b.Pairwise (· < ·) → (∀ k, k ∈ a ↔ k ∈ b) → a = b
  | [], [], _, _, _ => rfl
  | [], y :: b, _, _, h => nomatch (h y).mpr List.mem_cons_self
  | x :: a, [], _, _, h => nomatch (h x).mp List.mem_cons_self
  | x :: a, y :: b, ha, hb, h => by
    have ha' := List.pairwise_cons.mp ha
    have hb' := List.pairwise_cons.mp hb
    have e : x = y := by
      rcases List.mem_cons.mp ((h x).mp List.mem_cons_self) with e | m1
      · exact e
      · rcases List.mem_cons.mp ((h y).mpr List.mem_cons_self) with e | m2
        · exact e.symm
        · have := ha'.1 _ m2
          have := hb'.1 _ m1
          omega
    subst e
    refine congrArg (x :: ·) (rise_uniq ha'.2 hb'.2 fun k => ⟨fun m => ?_, fun m => ?_⟩)
    · rcases List.mem_cons.mp ((h k).mp (List.mem_cons_of_mem _ m)) with e | m'
      · have := ha'.1 _ m
        omega
      · exact m'
    · rcases List.mem_cons.mp ((h k).mpr (List.mem_cons_of_mem _ m)) with e | m'
      · have := hb'.1 _ m
        omega
      · exact m'
/-- sorted(set(ns)) -/
noncomputable def sortI (ns : List Int) : List Int := open Classical in if h : ∃ ms : List Int, ms.Pairwise (· < ·) ∧ ∀ k, k ∈ ms ↔ k ∈ ns then Classical.choose h else []
theorem sortI_eq {ns ms : List Int} (h1 : ms.Pairwise (· < ·)) (h2 : ∀ k, k ∈ ms ↔ k ∈ ns) : ms = sortI ns := by
  have h : ∃ ms : List Int, ms.Pairwise (· < ·) ∧ ∀ k, k ∈ ms ↔ k ∈ ns := ⟨ms, h1, h2⟩
  unfold sortI
  rw [dif_pos h]
  have s := Classical.choose_spec h
  exact rise_uniq h1 s.1 fun k => (h2 k).trans (s.2 k).symm
theorem all_same {a b : List Int} {p : Int → Bool} (h : ∀ k, k ∈ a ↔ k ∈ b) : a.all p = b.all p := by
  rw [Bool.eq_iff_iff, List.all_eq_true, List.all_eq_true]
  exact ⟨fun z k m => z k ((h k).mpr m), fun z k m => z k ((h k).mp m)⟩

section
variable {K : PySem.W.Frag} {σ : L2.St} {I H : Hp} {ta tb te : TE} {d : D}
theorem EvI.is {wi : TI} {ds es : List D} (h : EvI K wi σ I H ds) (e : ds = es) : EvI K wi σ I H es := e ▸ h
theorem EvA.is {t : TA} {ds es : List D} (h : EvA K t σ I H ds) (e : ds = es) : EvA K t σ I H es := e ▸ h
theorem flat_len {α β : Type} {ys : α → List β} {n : Nat} : ∀ {xs : List α}, (∀ a ∈ xs, (ys a).length ≤ n) → (xs.flatMap ys).length ≤ xs.length * n
  | [], _ => by simp
  | a :: xs, h => by
    have h1 := flat_len (xs := xs) fun b m => h b (List.mem_cons_of_mem _ m)
    have h2 := h a List.mem_cons_self
    rw [List.flatMap_cons, List.length_append, List.length_cons, Nat.succ_mul]
    omega
theorem ed_lc2 {α β : Type} {wi wi1 : TI} {g g1 : TG} {vs vs1 : List Nat} (xs : List α) (enc : α → D) (ys : α → List β) (enc1 : β → D) (f : α → β → D) (S : α → L2.St → Hp → Prop) (S1 : α → β → L2.St → L2.St → Hp → Prop)
    (hw : EvI K wi σ I H (xs.map enc)) (hz : xs.length < 9000) (hy : ∀ a ∈ xs, (ys a).length ≤ 10) (hg : ∀ a, BindD K g (wipe σ vs) (enc a) (S a))
    (hb : ∀ a ∈ xs, ∀ σ2 I1 H1, Gr [] I H I1 H1 → S a σ2 I1 → wipe σ2 vs = wipe σ vs ∧ EvI K wi1 σ2 I1 H1 ((ys a).map enc1) ∧ (∀ b, BindD K g1 (wipe σ2 vs1) (enc1 b) (S1 a b σ2)) ∧
      ∀ b ∈ ys a, ∀ σ3 I2 H2, Le I1 I2 → Gr [] I H I2 H2 → S1 a b σ2 σ3 I2 → wipe σ3 vs1 = wipe σ2 vs1 ∧ EvD K te σ3 I2 H2 (f a b)) :
    EvD K (tLc2 wi g tYes wi1 g1 tYes te vs vs1) σ I H (.lst (xs.flatMap fun a => (ys a).map (f a))) := fun I1 H1 gg Q q => by
  refine hw I1 H1 gg _ fun J I2 H2 g2 it => fun Dl hD => ?_
  have g12 := gg.tr g2
  have hf : ∀ i, i < xs.length → ((xs.take i).flatMap fun a => (ys a).map (f a)).length ≤ 90000 := fun i hi => by
    have z := flat_len (xs := xs.take i) (ys := fun a => (ys a).map (f a)) (n := 10) fun a m => by rw [List.length_map]; exact hy a (List.mem_of_mem_take m)
    rw [List.length_take] at z
    omega
  refine ⟨fun i m H' => m = xs.length - i ∧ i ≤ xs.length ∧ ∃ Ii acc, Gr [] I2 H2 Ii H' ∧ Ii Dl = none ∧ H' Dl = some (.lst acc) ∧ AtL K Ii acc ((xs.take i).flatMap fun a => (ys a).map (f a)), ⟨xs.length, by simp, Nat.zero_le _, I2, [], .side g2.sub hD, sub_free g2.sub hD, upd_same, .nil⟩, ?_⟩
  rintro i m H3 ⟨rfl, hi, I3, acc, g3, n3, h3, a3⟩
  by_cases hlt : i < xs.length
  · obtain ⟨a, ha⟩ : ∃ a, xs[i]? = some a := ⟨xs[i], by simp [hlt]⟩
    have ham := List.mem_of_getElem? ha
    have hm : (xs.map enc)[i]? = some (enc a) := by rw [List.getElem?_map, ha]; rfl
    refine .inr ⟨it.go i _ I3 H3 g3.ext g3.sub hm, fun H' => ∃ Ii acc, Gr [] I2 H2 Ii H' ∧ Ii Dl = none ∧ H' Dl = some (.lst acc) ∧ AtL K Ii acc ((xs.take (i + 1)).flatMap fun a => (ys a).map (f a)), fun H' ⟨Ii, acc', z⟩ => ⟨xs.length - (i + 1), by omega, rfl, hlt, Ii, acc', z⟩, fun x H4 y => ?_⟩
    obtain ⟨I4, g4, a4⟩ := it.yld i _ I3 H3 x H4 g3.ext g3.sub hm y
    have g34 := g3.tr g4
    refine hg a x I4 H4 g4.sub a4 _ fun σ2 hS => ?_
    obtain ⟨w2, ei, eg, ee⟩ := hb a ham σ2 I4 H4 (g12.tr g34) hS
    refine ⟨w2, ?_⟩
    unfold tYes
    dsimp only
    rw [if_pos rfl]
    have n4 : I4 Dl = none := g4.out _ _ n3 h3
    have h4 := g4.keep _ _ n3 h3 (by simp)
    refine ei I4 H4 (.refl g4.sub) _ fun J1 I5 H5 g5 it1 => ?_
    have n5 : I5 Dl = none := g5.out _ _ n4 h4
    have h5 := g5.keep _ _ n4 h4 (by simp)
    refine ⟨fun j m H' => m = (ys a).length - j ∧ j ≤ (ys a).length ∧ ∃ Ij acc', Gr [] I2 H2 Ij H' ∧ Gr [Dl] I5 H5 Ij H' ∧ Ij Dl = none ∧ H' Dl = some (.lst acc') ∧ AtL K Ij acc' (((xs.take i).flatMap fun a => (ys a).map (f a)) ++ ((ys a).take j).map (f a)),
      ⟨(ys a).length, by simp, Nat.zero_le _, I5, acc, g34.tr g5, .refl g5.sub, n5, h5, by simpa using (a3.gr g4).gr g5⟩, ?_⟩
    rintro j m H6 ⟨rfl, hj, I6, acc6, g6, g56, n6, h6, a6⟩
    by_cases hjt : j < (ys a).length
    · obtain ⟨b, hbb⟩ : ∃ b, (ys a)[j]? = some b := ⟨(ys a)[j], by simp [hjt]⟩
      have hbm : ((ys a).map enc1)[j]? = some (enc1 b) := by rw [List.getElem?_map, hbb]; rfl
      refine .inr ⟨it1.go j _ I6 H6 g56.ext g6.sub hbm, fun H' => ∃ Ij acc', Gr [] I2 H2 Ij H' ∧ Gr [Dl] I5 H5 Ij H' ∧ Ij Dl = none ∧ H' Dl = some (.lst acc') ∧ AtL K Ij acc' (((xs.take i).flatMap fun a => (ys a).map (f a)) ++ ((ys a).take (j + 1)).map (f a)),
        fun H' ⟨Ij, acc', z⟩ => ⟨(ys a).length - (j + 1), by omega, rfl, hjt, Ij, acc', z⟩, fun x1 H7 y1 => ?_⟩
      obtain ⟨I7, g7, a7⟩ := it1.yld j _ I6 H6 x1 H7 g56.ext g6.sub hbm y1
      refine eg b x1 I7 H7 g7.sub a7 _ fun σ3 hS1 => ?_
      have n7 := g7.out _ _ n6 h6
      have h7 := g7.keep _ _ n6 h6 (by simp)
      have g57 : Gr [Dl] I5 H5 I7 H7 := g56.trans g7.any fun m hm _ => by
        rw [List.mem_singleton.mp hm]
        exact ⟨_, h6⟩
      obtain ⟨w3, ev⟩ := ee b (List.mem_of_getElem? hbb) σ3 I7 H7 (g5.le.trans g57.le) (g12.tr (g6.tr g7)) hS1
      · refine ⟨w3, ?_⟩
        dsimp only
        rw [if_pos rfl]
        refine ev I7 H7 (.refl g7.sub) _ fun v I8 H8 g8 a8 => ?_
        have n8 := g8.out _ _ n7 h7
        have h8 := g8.keep _ _ n7 h7 (by simp)
        have a68 := (a6.gr g7).gr g8
        refine ⟨acc6, h8, ?_, I8, acc6 ++ [v], ((g6.tr g7).tr g8).mut hD n8, ?_, n8, upd_same, ?_⟩
        · have z1 := hf i hlt
          have z2 := hy a ham
          rw [a68.length, List.length_append, List.length_map, List.length_take]
          exact Nat.lt_of_le_of_lt (show _ ≤ 90010 by omega) (by decide)
        · exact (g57.trans g8.any fun m hm _ => by
            rw [List.mem_singleton.mp hm]
            exact ⟨_, h7⟩).mutM (by simp) n8
        · rw [take_succ hbb, List.map_append, ← List.append_assoc]
          exact a68.snoc a8
    · have e : j = (ys a).length := by omega
      subst e
      rw [List.take_length] at a6
      have z := it1.stop I6 H6 g56.ext g6.sub
      rw [List.length_map] at z
      refine .inl ⟨z, I6, acc6, g6, n6, h6, ?_⟩
      rw [take_succ ha, List.flatMap_append, List.flatMap_cons, List.flatMap_nil, List.append_nil]
      exact a6
  · have e : i = xs.length := by omega
    subst e
    rw [List.take_length] at a3
    have z := it.stop I3 H3 g3.ext g3.sub
    rw [List.length_map] at z
    refine .inl ⟨z, q _ (upd I3 Dl (.lst acc)) H3 ((g2.tr g3).know ?_ h3 n3) (at_lst a3 n3)⟩
    cases q1 : H1 Dl with
    | none => rfl
    | some o =>
      exfalso
      cases q2 : I1 Dl with
      | some u =>
        have := g2.sub _ _ (g2.ext _ _ q2)
        rw [hD] at this
        cases this
      | none =>
        have := g2.keep _ _ q2 q1 (by simp)
        rw [hD] at this
        cases this
/-! ### sorted(set(xs)) -/
theorem ed_sortset {w : World} {ns : List Int} (h : EvD K te σ I H (.lst (ns.map D.int))) (hz : ns.length < 64) : EvD K (tCB (rSortedSet w) (tCons (tCB (rSetL K w) (tCons te tNil)) tNil)) σ I H (.lst ((sortI ns).map D.int)) := fun I1 H1 g Q q =>
  h I1 H1 g _ fun v I2 H2 g2 a => by
    cases a with
    | lst h1 h2 =>
      have e := AtL.ints ns h2
      subst e
      refine ⟨_, ns, rfl, .of (g2.sub _ _ h1), by omega, fun p c hp hc => ⟨p, _, c, rfl, upd_same, by omega, fun ms p2 r1 r2 _ hn => ?_⟩⟩
      have e := sortI_eq r1 fun k => (r2 k).trans decide_eq_true_iff
      subst e
      have g3 : Gr [] I2 H2 I2 (upd H2 p (SetO w p (fun j => decide (j ∈ ns)) c)) := .side g2.sub hp
      exact q _ (upd I2 p2 (.lst _)) _ ((g2.tr g3).tr (.new g3.sub hn)) (at_lst (AtL.of_ints _) (sub_free g3.sub hn))
/-! ### ends -/
/-- a list beside what is known, known from now on -/
theorem know_l {l : Addr} {ys : List V} {ds : List D} {I0 H0 : Hp} (g : Gr [] I0 H0 I H) (n0 : H0 l = none) (hl : H l = some (.lst ys)) (nl : I l = none) (as : AtL K I ys ds) : ∃ I', Gr [] I0 H0 I' H ∧ Le I I' ∧ At K I' (.ref l) (.lst ds) :=
  ⟨upd I l (.lst ys), g.know n0 hl nl, upd_le nl, at_lst as nl⟩
theorem sx_ret {Dn : Ends} {I0 H0 : Hp} (g : Gr [] I0 H0 I H) (q : ∀ v I' H', Gr [] I0 H0 I' H' → At K I' v d → Dn.rt v H') (h : EvD K te σ I H d) : tRet te Dn σ H := h.run g.sub fun v I' H' g' a => q v I' H' (g.tr g') a
/-- x, y = a, b -/
theorem sq_par {i j : Nat} {u : TS} {Dn : Ends} {t : TA} {e : D} (h : EvA K t σ I H [d, e]) (s : Sub I H) (k : ∀ v w I1 H1, Gr [] I H I1 H1 → At K I1 v d → At K I1 w e → u Dn ((σ.set i (some v)).set j (some w)) H1) : tSeq (tPar i j t) u Dn σ H :=
  h I H (.refl s) _ fun vs I1 H1 g as => by
    obtain ⟨v, w, rfl, av, aw⟩ := as.two
    exact ⟨v, w, rfl, k v w I1 H1 g av aw⟩
/-- target = e -/
theorem sq_tgt {g : TG} {u : TS} {Dn : Ends} {S : L2.St → Hp → Prop} (h : EvD K te σ I H d) (b : BindD K g σ d S) (s : Sub I H) (k : ∀ σ2 I1 H1, Gr [] I H I1 H1 → S σ2 I1 → u Dn σ2 H1) : tSeq (tAsg te g) u Dn σ H :=
  h.run s fun v I1 H1 g a => b v I1 H1 g.sub a _ fun σ2 hS => k σ2 I1 H1 g hS
theorem zip_enc (gs hs : List P2) : ((gs.map encP).zip (hs.map encP)).map (fun z => D.tup [z.1, z.2]) = (gs.zip hs).map fun z => D.tup [encP z.1, encP z.2] := by
  rw [List.zip_map, List.map_map]
  rfl
end
theorem putF_len (f : Str) (v : V) : ∀ fs : List (Str × V), (putF f v fs).length ≤ fs.length + 1
  | [] => Nat.le_refl _
  | (g, x) :: r => by
    unfold putF
    split
    · simp
    · have := putF_len f v r
      simp only [List.length_cons]
      omega
section
variable {K : PySem.W.Frag} {σ : L2.St} {I H : Hp} {ta tb te : TE} {d e : D}
/-- x.f1, x.f2 = a, b: the instance x beside what is known -/
theorem sx_fld2 {i : Nat} {x C dx : Addr} {fs : List (Str × V)} {f1 f2 : Str} {Dn : Ends} {t : TA} (hv : σ[i]? = some (some (.ref x))) (hx : H x = some (.ins C dx fs)) (nx : I x = none) (c : Cls K C) (n1 : NoAttr K C f1) (n2 : NoAttr K C f2) (hz : fs.length < 900) (h : EvA K t σ I H [d, e]) (s : Sub I H)
    (k : ∀ v w I1 H1, Gr [x] I H I1 H1 → At K I1 v d → At K I1 w e → I1 x = none → H1 x = some (.ins C dx (putF f2 w (putF f1 v fs))) → Dn.nx σ H1) :
    tAsg (tTup t) (gTup K 2 (gCons (gFld K (tVar i) f1) (gCons (gFld K (tVar i) f2) gNil))) Dn σ H :=
  h I H (.refl s) _ fun vs I1 H1 g as => by
    obtain ⟨v, w, rfl, av, aw⟩ := as.two
    refine ⟨by show 2 ≤ _; decide, fun p hp => ?_⟩
    have g2 : Gr [] I1 H1 (upd I1 p (.tup [v, w])) (upd H1 p (.tup [v, w])) := .new g.sub hp
    have g12 := g.tr g2
    have hx2 := g12.keep x _ nx hx (by simp)
    have nx2 := g12.out x _ nx hx
    refine ⟨p, [v, w], rfl, .of upd_same, rfl, v, [w], rfl, .ref x, hv, x, C, dx, fs, rfl, hx2, c, n1, by omega, w, [], rfl, .ref x, hv, x, C, dx, putF f1 v fs, rfl, upd_same, c, n2, ?_, rfl, ?_⟩
    · have := putF_len f1 v fs
      omega
    · have g3 : Gr [x] I H (upd I1 p (.tup [v, w])) (upd (upd H1 p (.tup [v, w])) x (.ins C dx (putF f1 v fs))) := g12.any.mutM (by simp) nx2
      exact k v w _ _ (g3.mutM (by simp) nx2) (av.gr g2) (aw.gr g2) nx2 upd_same
end
section
variable {K : PySem.W.Frag} {σ : L2.St} {I H : Hp} {ta tb te : TE} {d e : D}
/-- x.f read, the instance x beside what is known -/
theorem ed_fldX {i : Nat} {x C dx : Addr} {fs : List (Str × V)} {f : Str} {v : V} (hv : σ[i]? = some (some (.ref x))) (hx : H x = some (.ins C dx fs)) (nx : I x = none) (c : Cls K C) (n : NoAttr K C f) (l : fs.lookup f = some v) (a : At K I v d) : EvD K (tFld K (tVar i) f) σ I H d := fun I1 H1 g Q q =>
  ⟨.ref x, hv, x, C, dx, fs, v, rfl, g.keep x _ nx hx (by simp), c, n, l, q v I1 H1 (.refl g.sub) (a.gr g)⟩
/-- isinstance of an own class -/
theorem rc_isi {a C : Addr} {b : Bool} {fs : List (Str × D)} {Cv : Addr} (hk : PySem.W.kitOne K (.ref C) (.ref Cv) = some b) (ty : ∀ (H : Hp) (x dx : Addr) (gs : List (Str × V)), H x = some (.ins C dx gs) → TyOf K H (.ref x) (.ref C)) : RcD K (rIsi K) [.ins C fs, .val (.ref Cv)] (.bl b) := fun xs I H s as Q q => by
  obtain ⟨v, u, rfl, av, au⟩ := as.two
  cases au
  cases av with
  | ins h1 h2 => exact ⟨_, _, _, _, b, rfl, .own Cv, .base (ty H _ _ _ (s _ _ h1)), hk, q _ I H (.refl s) (.bl _)⟩
theorem ed_val {v : V} : EvD K (tC v) σ I H (.val v) := ed_c (.val v)
/-- own operators -/
theorem rd_ownOp {C : Addr} {fs gs : List (Str × D)} {R : List D → D → Prop} (hr : R [.ins C fs, .ins C gs] d) : RvD K (rOwnOp C (pureSp K R)) (.ins C fs) (.ins C gs) d := fun x y I H s hx hy Q q => by
  have hx0 := hx
  have hy0 := hy
  cases hx with
  | ins h1 h2 =>
    cases hy with
    | ins k1 k2 => exact ⟨_, _, _, _, _, _, rfl, rfl, s _ _ h1, s _ _ k1, I, _, d, s, .cons hx0 (.cons hy0 .nil), hr, q⟩
theorem rd_ownIn {C : Addr} {fs : List (Str × D)} {R : List D → D → Prop} {b : Bool} (hr : R [.ins C fs, d] (.bl b)) : RvD K (rOwnIn C (pureSp K R)) d (.ins C fs) (.bl b) := fun x y I H s hx hy Q q => by
  have hy0 := hy
  cases hy with
  | ins k1 k2 => exact ⟨_, _, _, rfl, s _ _ k1, I, _, _, s, .cons hy0 (.cons hx .nil), hr, fun v I' H' g a => by
      cases a
      exact ⟨b, rfl, q _ I' H' g (.bl _)⟩⟩
end
/-! ### rules whose K is told (in a comprehension's block) -/
section
variable {X : Cx} {K : PySem.W.Frag} {e l : Expr} {ta : TE} {tg : Expr} {pos p : Pos} {es : List Expr} {t : TA} {f : Str}
theorem ix_tupK (h : X.K = K) : IxR X (rIxT K) := h ▸ ix_tup
theorem ix_listK (h : X.K = K) : IxR X (rIxL K) := h ▸ ix_list
theorem pi_listK (h : X.K = K) (he : PE X l ta) : PI X tg l (iList K ta) := h ▸ pi_list he
theorem pi_tupK (h : X.K = K) (he : PE X l ta) : PI X tg l (iTup K ta) := h ▸ pi_tup he
theorem pe_fldK (h : X.K = K) (he : PE X e ta) (hb : attributeBase e f X.env (eval e X.env) = eval e X.env) : PE X (.Attribute e f pos) (tFld K ta f) := h ▸ pe_fld he hb
theorem op_in_seqK (h : X.K = K) : OpR X (compareOp .In) (rIn K false) := h ▸ op_in_seq
theorem op_notIn_seqK (h : X.K = K) : OpR X (compareOp .NotIn) (rIn K true) := h ▸ op_notIn_seq
theorem op_catAK (h : X.K = K) : OpR X (binaryOp .Add) (rCatA K) := h ▸ op_catA
end
/-! ### existence of sorted(set(..)) -/
theorem ins_ex (x : Int) : ∀ ms : List Int, ms.Pairwise (· < ·) → ∃ ns : List Int, ns.Pairwise (· < ·) ∧ ∀ k, k ∈ ns ↔ k = x ∨ k ∈ ms
  | [], _ => ⟨[x], by simp, by simp⟩
  | y :: ms, h => by
    have h' := List.pairwise_cons.mp h
    by_cases c1 : x < y
    · refine ⟨x :: y :: ms, List.pairwise_cons.mpr ⟨fun k hk => ?_, h⟩, fun k => by simp⟩
      rcases List.mem_cons.mp hk with e | m
      · omega
      · have := h'.1 _ m
        omega
    · by_cases c2 : x = y
      · subst c2
        exact ⟨x :: ms, h, fun k => by simp⟩
      · obtain ⟨ns, p, q⟩ := ins_ex x ms h'.2
        refine ⟨y :: ns, List.pairwise_cons.mpr ⟨fun k hk => ?_, p⟩, fun k => ?_⟩
        · rcases (q k).mp hk with e | m
          · omega
          · exact h'.1 _ m
        · rw [List.mem_cons, List.mem_cons, q k]
          constructor
          · rintro (e | e | e)
            · exact .inr (.inl e)
            · exact .inl e
            · exact .inr (.inr e)
          · rintro (e | e | e)
            · exact .inr (.inl e)
            · exact .inl e
            · exact .inr (.inr e)
theorem sort_ex : ∀ ns : List Int, ∃ ms : List Int, ms.Pairwise (· < ·) ∧ ∀ k, k ∈ ms ↔ k ∈ ns
  | [] => ⟨[], .nil, by simp⟩
  | x :: ns => by
    obtain ⟨ms, p, q⟩ := sort_ex ns
    obtain ⟨ls, p', q'⟩ := ins_ex x ms p
    exact ⟨ls, p', fun k => by rw [q' k, q k, List.mem_cons]⟩
theorem sortI_mem {ns : List Int} (k : Int) : k ∈ sortI ns ↔ k ∈ ns := by
  obtain ⟨ms, p, q⟩ := sort_ex ns
  rw [← sortI_eq p q]
  exact q k
theorem rise_len : ∀ {ms ns : List Int}, ms.Pairwise (· < ·) → (∀ k, k ∈ ms → k ∈ ns) → ms.length ≤ ns.length
  | [], _, _, _ => Nat.zero_le _
  | x :: ms, ns, p, h => by
    have p' := List.pairwise_cons.mp p
    have hx := h x List.mem_cons_self
    have z := rise_len (ms := ms) (ns := ns.erase x) p'.2 fun k hk => by
      have e : k ≠ x := by
        have := p'.1 k hk
        omega
      exact (List.mem_erase_of_ne e).mpr (h k (List.mem_cons_of_mem _ hk))
    rw [List.length_erase_of_mem hx] at z
    have := List.length_pos_of_mem hx
    rw [List.length_cons]
    omega
theorem sortI_len {ns : List Int} : (sortI ns).length ≤ ns.length := by
  obtain ⟨ms, p, q⟩ := sort_ex ns
  rw [← sortI_eq p q]
  exact rise_len p fun k hk => (q k).mp hk

/-! ### an __init__ -/
section
variable {P : Program} {w : World} {K : PySem.W.Frag} {mg : Str → Option Value} {base : Heap}
def RetI (K : PySem.W.Frag) (C : Addr) (t : TS) (σ : L2.St) (x dx : Addr) (I H : Hp) (fs : List (Str × D)) : Prop := ∀ Dn : Ends, (∀ σ' I' H' gs, Gr [x] I H I' H' → I' x = none → H' x = some (.ins C dx gs) → AtF K I' gs fs → Dn.nx σ' H') → t Dn σ H
theorem Kn.initB {x qual : Str} {st : Stmt} {dvs : List V} {f C : Addr} {N ps : List Str} {k : Nat} {R : List D → List (Str × D) → Prop} {fd : FuncData} (F : FunD K x qual (defArgs st) (defBody st) (defScope st) dvs [] f fd) (S : FnScope N ps (defScope st))
    (len : ∀ ds fs, R ds fs → ds.length + 1 = ps.length)
    (body : ∀ (cdv : Value) (A : Around) (outer : List Env) (s : Shared) (H0 : Hp) (E : XK), Room k (A.deeper (envOfC qual (defScope st) s.heap.objs.size f cdv)) →
      ∃ t, PSs (cxOf CX0 P w K mg base N qual (defScope st) f cdv A outer s H0 E).nox (defBody st) t ∧ ∀ x dx ws ds fs I, Sub I H0 → I x = none → H0 x = some (.ins C dx []) → AtL K I ws ds → R ds fs → RetI K C t (start N (.ref x :: ws)) x dx I H0 fs) : FnOk P w K mg base CX0 (k + 1) f fd ps (initSp K C R) :=
  F.ok S (fun vs H Q E h => by
    obtain ⟨I, x, dx, ws, ds, fs, rfl, _, _, _, a, r, _⟩ := h
    rw [List.length_cons, a.length, len ds fs r]) fun cdv A outer s H vs Q E hr h => by
    obtain ⟨I, x, dx, ws, ds, fs, rfl, s1, nx, hx, a, r, q⟩ := h
    obtain ⟨t, h1, h2⟩ := body cdv A outer s H E hr
    exact ⟨t, h1.nox, h2 x dx ws ds fs I s1 nx hx a r _ fun σ' I' H' gs z1 z2 z3 z4 => q I' H' gs z1 z2 z3 z4⟩
/-- an __init__ with one default, called with all or with all but the last -/
structure KnD (P : Program) (w : World) (K : PySem.W.Frag) (mg : Str → Option Value) (base : Heap) (k : Nat) (f : Addr) (ps : List Str) (dv : V) (sp : Sp) : Prop where
  ex : ∃ fd ds, FnOk P w K mg base CX0 k f fd ps sp ∧ Binds K fd ps [] ∧ Vals [dv] ds ∧ Binds K fd ps ds
  kp : PySem.W.keepIn K (.ref f) = true
theorem KnD.kn {k : Nat} {f : Addr} {ps : List Str} {dv : V} {sp : Sp} (G : KnD P w K mg base k f ps dv sp) : Kn P w K mg base k f ps sp := by
  obtain ⟨fd, ds, F, b, _⟩ := G.ex
  exact ⟨⟨fd, F, b⟩, G.kp⟩
theorem Kn.init {x qual : Str} {st : Stmt} {f C : Addr} {N ps : List Str} {k : Nat} {R : List D → List (Str × D) → Prop} (F : ∃ fd, FunD K x qual (defArgs st) (defBody st) (defScope st) [] [] f fd) (S : FnScope N ps (defScope st))
    (hb : ∀ (kV doc pm : Value) (an : Option Addr) (cdv ct : Value) (us : List Value), us.length = ps.length → bindArgs (PySem.W.fnOf x qual (defArgs st) (defBody st) (defScope st) .none kV doc pm an cdv ct) ⟨us, []⟩ = Pure.pure (ps.zip us))
    (len : ∀ ds fs, R ds fs → ds.length + 1 = ps.length)
    (body : ∀ (cdv : Value) (A : Around) (outer : List Env) (s : Shared) (H0 : Hp) (E : XK), Room k (A.deeper (envOfC qual (defScope st) s.heap.objs.size f cdv)) →
      ∃ t, PSs (cxOf CX0 P w K mg base N qual (defScope st) f cdv A outer s H0 E).nox (defBody st) t ∧ ∀ x dx ws ds fs I, Sub I H0 → I x = none → H0 x = some (.ins C dx []) → AtL K I ws ds → R ds fs → RetI K C t (start N (.ref x :: ws)) x dx I H0 fs) : Kn P w K mg base (k + 1) f ps (initSp K C R) := by
  obtain ⟨fd, F⟩ := F
  exact ⟨⟨fd, Kn.initB F S len body, F.bindsN hb⟩, F.kp⟩
theorem KnD.init {x qual : Str} {st : Stmt} {f C : Addr} {N ps : List Str} {k n : Nat} {dv : V} {R : List D → List (Str × D) → Prop} (F : ∃ fd, FunD K x qual (defArgs st) (defBody st) (defScope st) [dv] [] f fd) (S : FnScope N ps (defScope st)) (hn : n + 1 = ps.length)
    (h1 : ∀ (T : Addr) (kV doc pm : Value) (an : Option Addr) (cdv ct : Value) (us its : List Value), us.length = n + 1 → its.length = 1 →
      ∃ k, bindArgs (PySem.W.fnOf x qual (defArgs st) (defBody st) (defScope st) (.ref T) kV doc pm an cdv ct) ⟨us, []⟩ = seqItems? (.ref T) >>= k ∧ k (some its.toArray) = Pure.pure (ps.zip (us ++ its.drop 1)))
    (h2 : ∀ (T : Addr) (kV doc pm : Value) (an : Option Addr) (cdv ct : Value) (us its : List Value), us.length = n → its.length = 1 →
      ∃ k, bindArgs (PySem.W.fnOf x qual (defArgs st) (defBody st) (defScope st) (.ref T) kV doc pm an cdv ct) ⟨us, []⟩ = seqItems? (.ref T) >>= k ∧ k (some its.toArray) = Pure.pure (ps.zip (us ++ its.drop 0)))
    (len : ∀ ds fs, R ds fs → ds.length + 1 = ps.length)
    (body : ∀ (cdv : Value) (A : Around) (outer : List Env) (s : Shared) (H0 : Hp) (E : XK), Room k (A.deeper (envOfC qual (defScope st) s.heap.objs.size f cdv)) →
      ∃ t, PSs (cxOf CX0 P w K mg base N qual (defScope st) f cdv A outer s H0 E).nox (defBody st) t ∧ ∀ x dx ws ds fs I, Sub I H0 → I x = none → H0 x = some (.ins C dx []) → AtL K I ws ds → R ds fs → RetI K C t (start N (.ref x :: ws)) x dx I H0 fs) : KnD P w K mg base (k + 1) f ps dv (initSp K C R) := by
  obtain ⟨fd, F⟩ := F
  obtain ⟨d1, v1, b1⟩ := F.binds1 (n + 1) 1 (by simp) (by simpa using hn) h1
  obtain ⟨d2, v2, b2⟩ := F.binds1 n 0 (by simp) (by simpa using hn) h2
  cases v1
  exact ⟨⟨fd, d2, Kn.initB F S len body, b1, v2, b2⟩, F.kp⟩
end
section
variable {X : Cx} {k : Nat} {f C : Addr} {ps : List Str} {sp : Sp} {x : Str} {p pos : Pos} {dv : V}
/-- C(), the last parameter by its default -/
theorem pmkD (M : Mk X.K C f) (G : KnD X.prog X.w X.K X.mg X.base k f ps dv sp) (hr : Room (k + 1) X.A) (hm : X.mg x = some (.ref C)) (hg : Gl X x := by rfl) (hdb : (x == ("__debug__" : Str)) = false := by decide) : PE X (.Call (.Name x p) [] [] pos) (tMake C sp [dv] E0 tNil) := by
  obtain ⟨fd, ds, F, _, v, b⟩ := G.ex
  exact pe_make0 M F hr hg hm b v pass0 hdb
end
section
variable {K : PySem.W.Frag} {σ : L2.St} {I H : Hp} {ta tb te : TE} {d : D}
theorem ed_makeD {C : Addr} {Ri : List D → List (Str × D) → Prop} {dv : V} {dd : D} {fs : List (Str × D)} (hd : ∀ I, At K I dv dd) (hr : Ri [dd] fs) : EvD K (tMake C (initSp K C Ri) [dv] E0 tNil) σ I H (.ins C fs) := fun I1 H1 g Q q x dx nx ndx ne => by
    have g3 : Gr [] I1 H1 I1 (upd (upd H1 dx (.own x)) x (.ins C dx [])) := (Gr.side (M := []) g.sub ndx).mut nx (sub_free g.sub nx)
    refine ⟨I1, x, dx, _, [dd], fs, rfl, g3.sub, sub_free g.sub nx, upd_same, .cons (hd I1) .nil, hr, fun I4 H4 gs g4 n4 h4 a4 => ⟨rfl, ?_⟩⟩
    have g24 : Gr [] I1 H1 I4 H4 := by
      refine ⟨fun a o z => g4.ext a o z, g4.sub, fun a o n z => g4.out a o n (g3.keep a o n z (by simp)), fun a o n z _ => g4.keep a o n (g3.keep a o n z (by simp)) ?_⟩
      intro hm
      have e : a = x := by simpa using hm
      rw [e, nx] at z
      cases z
    exact q _ (upd I4 x (.ins C dx gs)) H4 (g24.know nx h4 n4) (.ins upd_same (AtF.le (upd_le n4) _ a4))
/-- o.f = e in an __init__: the instance x beside what is known -/
theorem sx_fld {i : Nat} {x C dx : Addr} {fs : List (Str × V)} {f : Str} {Dn : Ends} (hv : σ[i]? = some (some (.ref x))) (hx : H x = some (.ins C dx fs)) (nx : I x = none) (c : Cls K C) (n : NoAttr K C f) (hz : fs.length < 1000) (h : EvD K te σ I H d) (s : Sub I H)
    (k : ∀ v I1 H1, Gr [] I H I1 H1 → At K I1 v d → H1 x = some (.ins C dx fs) → I1 x = none → Dn.nx σ (upd H1 x (.ins C dx (putF f v fs)))) : sFld K (tVar i) te f Dn σ H :=
  h.run s fun v I1 H1 g a => ⟨.ref x, hv, x, C, dx, fs, rfl, g.keep x _ nx hx (by simp), c, n, hz, k v I1 H1 g a (g.keep x _ nx hx (by simp)) (g.out x _ nx hx)⟩
theorem sq_fld {i : Nat} {x C dx : Addr} {fs : List (Str × V)} {f : Str} {u : TS} {Dn : Ends} (hv : σ[i]? = some (some (.ref x))) (hx : H x = some (.ins C dx fs)) (nx : I x = none) (c : Cls K C) (n : NoAttr K C f) (hz : fs.length < 1000) (h : EvD K te σ I H d) (s : Sub I H)
    (k : ∀ v I1 H1, Gr [] I H I1 H1 → At K I1 v d → H1 x = some (.ins C dx fs) → I1 x = none → u Dn σ (upd H1 x (.ins C dx (putF f v fs)))) : tSeq (sFld K (tVar i) te f) u Dn σ H := sx_fld (Dn := { Dn with nx := u Dn }) hv hx nx c n hz h s k
end
end K98

/-! S5Merge: {**d, k: v}. -/
namespace K98
open PySem PySem.Spec PyProof.Rows L2
section
variable {prog : Program} {w : World} {κ : Type} [DecidableEq κ] {knd : KeyKind prog w κ} {A : Around} {E : Value → Shared → Prop} {s : Shared}
theorem dictPut_pairs {d : Addr} {kvs : List (κ × Value)} {k : κ} {key v : Value} {Q : Unit → Shared → Prop} (hkey : knd.is k key = true) (hm : s.heap.DictOf knd d kvs)
    (hQ : ∀ h', h'.DictOf knd d (stored kvs k v) → Heap.SameBut d s.heap h' → Q () { s with heap := h' }) (hsz : kvs.length ≤ sizeLine) : wpAny (model prog w) A (dictPut d (knd.hash k) key v) Q E s := by
  obtain ⟨o, es, ep, ho, hc, hd, hk, hp, hn⟩ := hm
  have hes : es.size ≤ sizeLine := by
    have e1 := hp.length
    rw [Array.length_toList] at e1
    omega
  have hidx : (es.findIdx? fun e => knd.is k e.key) = kvs.findIdx? fun kv => decide (kv.1 = k) := by
    rw [← hp.findIdx k]
    obtain ⟨l⟩ := es
    simp
  unfold dictPut
  refine wpAny_bind (wpAny_dictFind_of hkey ho hd hk ?_)
  cases hi : es.findIdx? fun e => knd.is k e.key with
  | some i =>
    refine wpAny_updateDict ho hd (hQ _ ⟨_, _, ep, Heap.get?_update_self _ ho (Obj.isFreed_of_dict (Obj.data_mapDict hd _)), hc.mapDict _, Obj.data_mapDict hd _, hk.modify _ _, ?_, ?_⟩ (Heap.SameBut.update ..))
    · rw [stored, if_pos (any_of_findIdx_some (hidx ▸ hi))]
      have hl : (es.toList.findIdx? fun e => knd.is k e.key) = some i := by
        rw [← hi]
        obtain ⟨l⟩ := es
        simp
      have := hp.modify hn hl v
      obtain ⟨l⟩ := es
      simpa using this
    · rw [stored, if_pos (any_of_findIdx_some (hidx ▸ hi)), keys_map_store]
      exact hn
  | none =>
    have hnot : k ∉ kvs.map (·.1) := not_mem_of_findIdx_none (hidx ▸ hi)
    have hany : ¬ (kvs.any fun kv => decide (kv.1 = k)) = true := by
      rw [List.any_eq_true]
      rintro ⟨kv, hkv, he⟩
      exact hnot (List.mem_map.mpr ⟨kv, hkv, of_decide_eq_true he⟩)
    refine wpAny_updateDictKeys (hz := hes) ho hd (hQ _ ⟨_, _, ep + 1, Heap.get?_update_self _ ho (Obj.isFreed_of_dict (Obj.data_mapDictKeys hd _)), hc.mapDictKeys _, Obj.data_mapDictKeys hd _, hk.push hkey _, ?_, ?_⟩ (Heap.SameBut.update ..))
    · rw [stored, if_neg hany]
      have := hp.append hkey (knd.hash k) v
      obtain ⟨l⟩ := es
      simpa using this
    · rw [stored, if_neg hany, List.map_append, List.nodup_append]
      refine ⟨hn, by simp, fun a ha b hb => ?_⟩
      simp only [List.map_cons, List.map_nil, List.mem_singleton] at hb
      subst hb
      exact fun e => hnot (e ▸ ha)
theorem wp_ifp {α : Type} {M : Model} {c : Prop} [Decidable c] {x y : Sem α} {Q : α → Shared → Prop} (hc : c) (h : wpAny M A x Q E s) : wpAny M A (if c then x else y) Q E s := by
  rw [if_pos hc]
  exact h
theorem wp_ifn {α : Type} {M : Model} {c : Prop} [Decidable c] {x y : Sem α} {Q : α → Shared → Prop} (hc : ¬ c) (h : wpAny M A y Q E s) : wpAny M A (if c then x else y) Q E s := by
  rw [if_neg hc]
  exact h
theorem pre_ok {α : Type} {c : Prop} [Decidable c] {D : Sem α} {F : α → Sem PUnit} {R : Sem Unit} {Q : Unit → Shared → Prop} (hX : ∀ Q' : Shared → Prop, Q' s → wpAny (model prog w) A D (fun es s1 => wpAny (model prog w) A (F es) (fun _ s2 => Q' s2) E s1) E s)
    (hR : wpAny (model prog w) A R Q E s) : wpAny (model prog w) A (if c then D >>= fun es => F es >>= fun _ => R else R) Q E s := by
  split
  · exact wpAny_bind (wpAny_mono (hX (fun s2 => wpAny (model prog w) A R Q E s2) hR) (fun es s1 h => wpAny_bind h) fun _ _ e => e)
  · exact hR
theorem mergeMapping_pairs {d o : Addr} {kvs more : List (κ × Value)} {Q : Unit → Shared → Prop} (hdo : d ≠ o) (hoS : (o == sysModules) = false) (hd : s.heap.DictOf knd d kvs) (ho : s.heap.DictOf knd o more)
    (hQ : ∀ h', h'.DictOf knd d (merged kvs more) → h'.DictOf knd o more → Heap.SameBut d s.heap h' → Q () { s with heap := h' }) (hsz : kvs.length + more.length ≤ sizeLine) :
    wpAny (model prog w) A (mergeMapping d (.ref o) false) Q E s := by
  obtain ⟨od, esd, epd, hod, hcd, hdd, hkd, hpd, hnd⟩ := id hd
  obtain ⟨oo, eso, epo, hoo, hco, hdo', hko, hpo, hno⟩ := id ho
  have hlen : more.length = eso.size := by rw [← hpo.length]; simp
  have hks : ∀ e ∈ eso.toList, carriedByValue e.key = true := fun e he => by
    obtain ⟨k, hkey, _⟩ := hko e (Array.mem_toList_iff.mp he)
    exact knd.byValue k _ hkey
  unfold mergeMapping
  refine wpAny_bind (wpAny_isInstance ho.typeIs isSubtype_dict_dict ?_)
  dsimp only
  rw [if_pos rfl]
  refine wpAny_bind (wpAny_specialOf ho.typeIs F.slot_dict_iter.lookup (wpAny_bind (wpAny_pure ?_)))
  simp only [beq_self_eq_true]
  rw [if_neg (by rw [hoS]; exact Bool.false_ne_true)]
  refine wpAny_bind (wpAny_dictEntries hod hdd ?_)
  refine pre_ok (fun Q' q' => wpAny_dictEntries hoo hdo' ?_) ?_
  · rw [← Array.forIn_toList]
    refine wpAny_forIn_list _ (fun rest _ s' => s' = s ∧ ∀ e ∈ rest, carriedByValue e.key = true) _ ?_ ?_ _ _ ⟨rfl, hks⟩
    · rintro x rest b s' ⟨rfl, hr⟩
      have hx := hr x List.mem_cons_self
      cases hk : x.key with
      | ref a =>
        rw [hk] at hx
        cases hx
      | _ => exact wpAny_pure ⟨rfl, fun e he => hr e (List.mem_cons_of_mem _ he)⟩
    · rintro b s' ⟨rfl, _⟩
      exact q'
  · refine wpAny_bind (wpAny_dictEntries hoo hdo' ?_)
    refine wpAny_bind (wpAny_dictEpoch hoo hdo' ?_)
    refine wpAny_bind ?_
    rw [List.range_eq_range']
    refine wpAny_forIn_list _
      (fun rest _ s' => ∃ h' i, s' = { s with heap := h' } ∧ rest = List.range' i (eso.size - i) ∧ i ≤ eso.size ∧ h'.DictOf knd d (merged kvs (more.take i)) ∧ h'.get? o = some oo ∧ Heap.SameBut d s.heap h')
      _ ?_ ?_ _ _ ⟨s.heap, 0, rfl, by simp, Nat.zero_le _, by simpa [merged] using hd, hoo, Heap.SameBut.refl _ _⟩
    · rintro x rest b s' ⟨h', i, rfl, hr, hi, hd', hoo', hs'⟩
      have hlt : i < eso.size := by
        rcases Nat.lt_or_ge i eso.size with h | h
        · exact h
        · rw [Nat.sub_eq_zero_of_le h] at hr
          simp at hr
      obtain ⟨rfl, hrest⟩ : x = i ∧ rest = List.range' (i + 1) (eso.size - (i + 1)) := by
        have e : eso.size - i = (eso.size - (i + 1)) + 1 := by omega
        rw [e, List.range'_succ] at hr
        injection hr with h1 h2
        exact ⟨h1, h2⟩
      refine wpAny_bind (wpAny_dictEntries hoo' hdo' ?_)
      rw [Array.getElem?_eq_getElem hlt]
      obtain ⟨kv, hkv⟩ : ∃ kv, more[x]? = some kv := ⟨more[x]'(by rw [hlen]; exact hlt), List.getElem?_eq_getElem _⟩
      obtain ⟨k, v⟩ := kv
      obtain ⟨hkey, hval⟩ := hpo.get? (e := eso[x]) (by simp [hlt]) hkv
      obtain ⟨k', hkey', hhash⟩ := hko eso[x] (Array.getElem_mem hlt)
      obtain rfl : k' = k := knd.inj _ _ _ hkey' hkey
      dsimp only
      rw [if_neg Bool.false_ne_true, hhash, hval]
      have hmx : (merged kvs (more.take x)).length ≤ sizeLine := by
        have e1 := merged_length_le kvs (more.take x)
        have e2 : (more.take x).length ≤ more.length := by rw [List.length_take]; omega
        omega
      refine wpAny_bind (wpAny_holding (dictPut_pairs (hsz := hmx) hkey hd' fun h'' hd'' hs'' => ?_))
      have hoo'' : h''.get? o = some oo := (hs''.2 o (Ne.symm hdo)).trans hoo'
      refine wpAny_bind (wpAny_dictEpoch hoo'' hdo' ?_)
      rw [if_neg (by simp)]
      exact wpAny_pure ⟨h'', x + 1, rfl, hrest, hlt, by rw [merged_take_succ kvs more x (k', v) hkv]; exact hd'', hoo'', hs'.trans hs''⟩
    · rintro b s' ⟨h', i, rfl, hr, hi, hd', hoo', hs'⟩
      have hin : i = eso.size := by
        rcases Nat.lt_or_ge i eso.size with h | h
        · have e : eso.size - i = (eso.size - (i + 1)) + 1 := by omega
          rw [e, List.range'_succ] at hr
          exact nomatch hr
        · exact Nat.le_antisymm hi h
      refine wpAny_pure (hQ h' ?_ ⟨oo, eso, epo, hoo', hco, hdo', hko, hpo, hno⟩ hs')
      rw [hin, ← hlen, List.take_length] at hd'
      exact hd'
end
/-! ### the display -/
section
variable {X : Cx}
def tMerge1 (te tk tv : TE) : TE := fun σ H Q => ∀ p, H p = none → te σ (upd H p (.dK [])) fun x H1 => ∃ a kvs, x = .ref a ∧ a ≠ p ∧ Rd H1 a (.dK kvs) ∧ H1 p = some (.dK []) ∧ kvs.length < 100000 ∧
  ∀ q, upd H1 p (.dK (mergeK [] kvs)) q = none → tk σ (upd (upd H1 p (.dK (mergeK [] kvs))) q (.dK [])) fun y H2 => tv σ H2 fun z H3 => ∃ k, y = kV k ∧ p ≠ q ∧ H3 q = some (.dK []) ∧ H3 p = some (.dK (mergeK [] kvs)) ∧
    Q (.ref p) (upd (upd H3 q (.dK [(k, z)])) p (.dK (mergeK (mergeK [] kvs) [(k, z)])))
theorem pe_merge1 {e k v : Expr} {te tk tv : TE} {pos : Pos} (he : PE X e te) (hk : PE X k tk) (hv : PE X v tv) : PE X (.Dict [none, some k] [e, v] pos) (tMerge1 te tk tv) := by
  refine ⟨fun pins s σ H Q I h => ?_⟩
  rw [arm_eval_Dict]
  refine wpAny_bind (wpAny_standAt ?_)
  show wpAny _ _ (dictDisplay [(none, do let x ← eval e X.env; standAt pos; pure x), (some (eval k X.env), do let x ← eval v X.env; standAt pos; pure x)]) _ _ _
  unfold dictDisplay
  simp only [List.forIn_cons, List.forIn_nil]
  refine wpAny_bind (wpAny_bind (wpAny_bind ?_))
  refine wp_ifp rfl (wpAny_pure ?_)
  dsimp only
  have hn := I.hok.fresh (Nat.le_refl s.heap.objs.size)
  have I1 := I.laid (a := s.heap.objs.size) (o := .dK []) (h' := s.heap.push { cls := .type "dict", data := .dict #[] }) (t' := s.toks) (fun _ _ q => Heap.get?_push_of_some _ q) (Nat.le_refl _) (dk_empty s.heap I.big)
  refine wpAny_bind (wpAny_alloc (wpAny_bind (wpAny_holding (wpAny_bind (thn (he.run pins _ σ _ _ I1 (h _ hn)) fun u s2 ⟨x, H2, I2, rx, a, kvs, ex, hap, rd, hp, hz, q2⟩ => wpAny_bind (wpAny_standAt (wpAny_pure ?_)))))))
  subst ex
  cases rx
  obtain ⟨z1, hd1, vs1, r1, dd1⟩ := dk_rd I2.hok rd
  obtain ⟨z0, hd0, vs0, r0, dd0⟩ := dk_of I2.hok hp
  cases r0
  refine wpAny_bind (wpAny_onRaise (wpAny_tryCatch (wpAny_onRaise (wpAny_holding (mergeMapping_pairs (Ne.symm hap) hd1 dd0 dd1 (fun h' dd' _ hs => ?_) ?_)))))
  · have hz2 : (mergeK [] kvs).length ≤ sizeLine := by
      have h1 := length_mergeK kvs []
      rw [List.length_nil] at h1
      rw [sizeLine_eq]
      omega
    have hex : ∃ q, h'.get? s.heap.objs.size = some q := let ⟨q, _, _, hq, _⟩ := dd'; ⟨q, hq⟩
    have I3 : Inv X pins σ (upd H2 s.heap.objs.size (.dK (mergeK [] kvs))) { s2 with heap := h' } := d_write (t' := s2.toks) I2 (by rw [hp]; exact True.intro) hs hex (dk_new hz2 hd0 (r1.merge .nil) dd')
    refine wpAny_pure ?_
    dsimp only
    refine wpAny_bind (wp_ifn (show ¬ ((1 : Nat) == 17) = true by decide) (wpAny_pure (wpAny_pure ?_)))
    refine wpAny_bind (wp_ifn Bool.false_ne_true ?_)
    dsimp only
    have hn2 := I3.hok.fresh (Nat.le_refl h'.objs.size)
    have I4 := I3.laid (a := h'.objs.size) (o := .dK []) (h' := h'.push { cls := .type "dict", data := .dict #[] }) (t' := s2.toks) (fun _ _ q => Heap.get?_push_of_some _ q) (Nat.le_refl _) (dk_empty h' I3.big)
    refine wpAny_bind (wpAny_holding (wpAny_subDict (knd := mixKind X.prog X.w) (show (1 : Nat) ≤ 15 by decide) ?_))
    show wpAny (model X.prog X.w) X.A (evalPairs (pairTrees [some k] [v] X.env pos)) _ _ _
    refine thn ((pps_cons hk hv pps_nil).run pins _ σ _ (fun ps H3 => match ps with
      | [(y, z)] => ∃ k, y = kV k ∧ s.heap.objs.size ≠ h'.objs.size ∧ H3 h'.objs.size = some (.dK []) ∧ H3 s.heap.objs.size = some (.dK (mergeK [] kvs)) ∧ Q (.ref s.heap.objs.size) (upd (upd H3 h'.objs.size (.dK [(k, z)])) s.heap.objs.size (.dK (mergeK (mergeK [] kvs) [(k, z)])))
      | _ => False) I4 (q2 _ hn2)) fun ws s3 ⟨ps, H3, I5, rel, q3⟩ => ?_
    match ps, rel, q3 with
    | [(y, z)], rel, q3 =>
      obtain ⟨kk, ey, hne, hq3, hp3, q3⟩ := q3
      subst ey
      obtain ⟨rs, c, rk⟩ := carries_of (P := X.prog) (w := X.w) (kvs := [(kk, z)]) rel
      obtain ⟨z3, hd3, vs3, r3, dd3⟩ := dk_of I5.hok hq3
      cases r3
      refine ⟨rs, c, dd3, fun h4 dd4 hs4 => ?_⟩
      have hex4 : ∃ q, h4.get? h'.objs.size = some q := let ⟨q, _, _, hq, _⟩ := dd4; ⟨q, hq⟩
      have I6 : Inv X pins σ (upd H3 h'.objs.size (.dK [(kk, z)])) { s3 with heap := h4, toks := s3.toks + ws.length } := d_write (t' := s3.toks + ws.length) I5 (by rw [hq3]; exact True.intro) hs4 hex4 (dk_new (kvs := [(kk, z)]) (by rw [sizeLine_eq]; show 1 ≤ _; omega) hd3 (rk.merge .nil) dd4)
      have hp6 : upd H3 h'.objs.size (.dK [(kk, z)]) s.heap.objs.size = some (.dK (mergeK [] kvs)) := by
        rw [upd_ne hne]
        exact hp3
      obtain ⟨z6, hd6, vs6, r6, dd6⟩ := dk_of I6.hok hp6
      obtain ⟨z7, hd7, vs7, r7, dd7⟩ := dk_of I6.hok (upd_same (a := h'.objs.size))
      refine wpAny_bind (wpAny_onRaise (wpAny_holding (mergeMapping_pairs hne hd7 dd6 dd7 (fun h5 dd5 _ hs5 => ?_) ?_)))
      · have hz5 : (mergeK (mergeK [] kvs) [(kk, z)]).length ≤ sizeLine := by
          have h1 := length_mergeK [(kk, z)] (mergeK [] kvs)
          have h2 := length_mergeK kvs []
          simp only [List.length_nil, List.length_cons] at h1 h2
          rw [sizeLine_eq]
          omega
        have hex5 : ∃ q, h5.get? s.heap.objs.size = some q := let ⟨q, _, _, hq, _⟩ := dd5; ⟨q, hq⟩
        have I7 := d_write (ob := .dK (mergeK (mergeK [] kvs) [(kk, z)])) (t' := s3.toks + ws.length) I6 (by rw [hp6]; exact True.intro) hs5 hex5 (dk_new hz5 hd6 (r7.merge r6) dd5)
        exact wpAny_pure (wpAny_pure ⟨.ref s.heap.objs.size, _, I7, rfl, q3⟩)
      · have e6 := r6.length
        have e7 := r7.length
        have h2 := length_mergeK kvs []
        simp only [List.length_nil, List.length_cons] at e7 h2
        rw [← e6, ← e7, sizeLine_eq]
        omega
  · have e1 := r1.length
    rw [← e1, List.length_nil, sizeLine_eq]
    omega
end
end K98

/-! S5Dict: dicts as data; locks; comprehensions over dicts. -/
namespace K98
open PySem PySem.Spec PyProof.Rows L2

def valD (kds : List (Key × D)) (k : Key) : Option D := (kds.find? fun kv => decide (kv.1 = k)).map (·.2)
def putD (kds : List (Key × D)) (k : Key) (d : D) : List (Key × D) := if kds.any (fun kv => decide (kv.1 = k)) then kds.map (fun kv => if kv.1 = k then (kv.1, d) else kv) else kds ++ [(k, d)]

theorem Gr.back {I H I1 H1 : Hp} (g : Gr [] I H I1 H1) {x : Addr} (h : H1 x = none) : H x = none := by
  cases q1 : H x with
  | none => rfl
  | some o =>
    exfalso
    cases q2 : I x with
    | some u =>
      have := g.sub _ _ (g.ext _ _ q2)
      rw [h] at this
      cases this
    | none =>
      have := g.keep _ _ q2 q1 (by simp)
      rw [h] at this
      cases this
/-! ### sorted texts -/
def leS (a b : Str) : Prop := ¬ b.cps.toList < a.cps.toList
theorem str_ext {a b : Str} (h : a.cps.toList = b.cps.toList) : a = b := by
  obtain ⟨a⟩ := a
  obtain ⟨b⟩ := b
  congr
  exact Array.toList_inj.mp h
theorem leS_anti {a b : Str} (h1 : leS a b) (h2 : leS b a) : a = b := str_ext (List.le_antisymm h1 h2)
theorem leS_trans {a b c : Str} (h1 : leS a b) (h2 : leS b c) : leS a c := List.le_trans h1 h2
theorem rising_pair : ∀ (l : List Str) (p : Str), risingS p l = true → (∀ x ∈ l, leS p x) ∧ l.Pairwise leS
  | [], p, _ => ⟨fun _ h => (nomatch h), .nil⟩
  | x :: r, p, h => by
    unfold risingS at h
    rw [Bool.and_eq_true] at h
    have h1 : leS p x := by
      have z := h.1
      rw [ltCps_eq] at z
      intro c
      rw [decide_eq_true c] at z
      cases z
    obtain ⟨h2, h3⟩ := rising_pair r x h.2
    refine ⟨fun y hy => ?_, List.pairwise_cons.mpr ⟨h2, h3⟩⟩
    rcases List.mem_cons.mp hy with e | hy
    · rw [e]
      exact h1
    · exact leS_trans h1 (h2 y hy)
theorem sortedS_pair {l : List Str} (h : sortedS l = true) : l.Pairwise leS := by
  cases l with
  | nil => exact .nil
  | cons x r =>
    obtain ⟨h2, h3⟩ := rising_pair r x h
    exact List.pairwise_cons.mpr ⟨h2, h3⟩
noncomputable def sortS (ks : List Str) : List Str := open Classical in if h : ∃ ys : List Str, ys.Perm ks ∧ sortedS ys = true then Classical.choose h else []
theorem sortS_eq {ks ys : List Str} (h1 : ys.Perm ks) (h2 : sortedS ys = true) : ys = sortS ks := by
  have h : ∃ ys : List Str, ys.Perm ks ∧ sortedS ys = true := ⟨ys, h1, h2⟩
  unfold sortS
  rw [dif_pos h]
  have s := Classical.choose_spec h
  exact List.Perm.eq_of_pairwise (le := leS) (fun a b _ _ => leS_anti) (sortedS_pair h2) (sortedS_pair s.2) (h1.trans s.1.symm)
theorem leS_total (a b : Str) : leS a b ∨ leS b a := List.le_total a.cps.toList b.cps.toList
theorem sortS_perm (ks : List Str) : (sortS ks).Perm ks := by
  have h : ∃ ys : List Str, ys.Perm ks ∧ sortedS ys = true := by
    refine ⟨ks.mergeSort (fun a b => !decide (b.cps.toList < a.cps.toList)), List.mergeSort_perm _ _, sortedS_of_pairwise _ ?_⟩
    refine (List.pairwise_mergeSort ?_ ?_ ks).imp fun {a b} h => ?_
    · intro a b c h1 h2
      simp only [Bool.not_eq_true', decide_eq_false_iff_not] at h1 h2 ⊢
      exact leS_trans h1 h2
    · intro a b
      simp only [Bool.or_eq_true, Bool.not_eq_true', decide_eq_false_iff_not]
      exact leS_total a b
    · rw [ltCps_eq]
      simpa using h
  obtain ⟨ys, h1, h2⟩ := h
  rw [← sortS_eq h1 h2]
  exact h1
section
variable {K : PySem.W.Frag} {σ : L2.St} {I H : Hp} {ta tb te : TE} {d e : D}
theorem AtK.val : ∀ {kvs : List (Key × V)} {kds : List (Key × D)}, AtK K I kvs kds → ∀ k, ((valD kds k = none ∧ valV kvs k = none) ∨ ∃ d v, valD kds k = some d ∧ valV kvs k = some v ∧ At K I v d)
  | _, _, .nil, k => .inl ⟨rfl, rfl⟩
  | _, _, .cons (k := j) (vs := vs) (ds := ds) (v := v) (d := d) h t, k => by
    by_cases c : j = k
    · refine .inr ⟨d, v, ?_, valV_pos c, h⟩
      simp [valD, List.find?_cons, c]
    · have e1 : valD ((j, d) :: ds) k = valD ds k := by simp [valD, List.find?_cons, c]
      rw [e1, valV_neg (p := (j, v)) c]
      exact AtK.val t k
theorem AtK.append : ∀ {a b : List (Key × V)} {x y : List (Key × D)}, AtK K I a x → AtK K I b y → AtK K I (a ++ b) (x ++ y)
  | _, _, _, _, .nil, s => s
  | _, _, _, _, .cons h t, s => .cons h (t.append s)
theorem AtK.any : ∀ {kvs : List (Key × V)} {kds : List (Key × D)}, AtK K I kvs kds → ∀ k : Key, (kvs.any fun kv => decide (kv.1 = k)) = kds.any fun kv => decide (kv.1 = k)
  | _, _, .nil, k => rfl
  | _, _, .cons h t, k => by
    rw [List.any_cons, List.any_cons, AtK.any t k]
theorem AtK.repl {v : V} {d : D} (a : At K I v d) (k : Key) : ∀ {kvs : List (Key × V)} {kds : List (Key × D)}, AtK K I kvs kds → AtK K I (kvs.map fun kv => if kv.1 = k then (kv.1, v) else kv) (kds.map fun kv => if kv.1 = k then (kv.1, d) else kv)
  | _, _, .nil => .nil
  | _, _, .cons (k := j) h t => by
    rw [List.map_cons, List.map_cons]
    by_cases c : j = k
    · rw [if_pos c, if_pos c]
      exact .cons a (AtK.repl a k t)
    · rw [if_neg c, if_neg c]
      exact .cons h (AtK.repl a k t)
theorem AtK.put {kvs : List (Key × V)} {kds : List (Key × D)} {v : V} {d : D} (h : AtK K I kvs kds) (a : At K I v d) (k : Key) : AtK K I (putK kvs k v) (putD kds k d) := by
  unfold putK putD
  rw [h.any k]
  split
  · exact h.repl a k
  · exact h.append (.cons a .nil)
theorem putD_new {kds : List (Key × D)} {k : Key} {d : D} (h : k ∉ kds.map (·.1)) : putD kds k d = kds ++ [(k, d)] := by
  unfold putD
  rw [if_neg]
  intro z
  rw [List.any_eq_true] at z
  obtain ⟨kv, hm, e⟩ := z
  exact h (List.mem_map.mpr ⟨kv, hm, of_decide_eq_true e⟩)
theorem putK_snoc {kvs : List (Key × V)} {k : Key} {v : V} (h : k ∉ kvs.map (·.1)) : putK kvs k v = kvs ++ [(k, v)] := by
  unfold putK
  rw [if_neg]
  intro z
  rw [List.any_eq_true] at z
  obtain ⟨kv, hm, e⟩ := z
  exact h (List.mem_map.mpr ⟨kv, hm, of_decide_eq_true e⟩)
theorem mergeK_app : ∀ (more kvs : List (Key × V)), ((kvs ++ more).map (·.1)).Nodup → mergeK kvs more = kvs ++ more
  | [], kvs, _ => by rw [List.append_nil]; rfl
  | (k, v) :: r, kvs, h => by
    show mergeK (putK kvs k v) r = _
    have hk : k ∉ kvs.map (·.1) := fun m => by
      rw [List.map_append, List.map_cons, List.nodup_append] at h
      exact h.2.2 k m k List.mem_cons_self rfl
    have e : kvs ++ (k, v) :: r = (kvs ++ [(k, v)]) ++ r := by simp
    rw [putK_snoc hk, e]
    exact mergeK_app r _ (by rw [← e]; exact h)
theorem mergeK_self {kvs : List (Key × V)} (h : (kvs.map (·.1)).Nodup) : mergeK [] kvs = kvs := mergeK_app kvs [] h

/-! ### an evaluation with any word of its value -/
def EvP (te : TE) (σ : L2.St) (I H : Hp) (P : V → Hp → Prop) : Prop := ∀ I1 H1, Gr [] I H I1 H1 → ∀ Q : VK, (∀ v I2 H2, Gr [] I1 H1 I2 H2 → P v I2 → Q v H2) → te σ H1 Q
/-- a dict that is not locked -/
def Dk (K : PySem.W.Frag) (kds : List (Key × D)) (v : V) (I : Hp) : Prop := ∃ a kvs, v = .ref a ∧ I a = some (.dK kvs) ∧ AtK K I kvs kds
theorem Dk.at {kds : List (Key × D)} {v : V} (h : Dk K kds v I) : At K I v (.dic kds) := by
  obtain ⟨a, kvs, rfl, h1, h2⟩ := h
  exact .dic (.inl h1) h2
theorem Dk.gr {M : List Addr} {I' H' : Hp} {kds : List (Key × D)} {v : V} (h : Dk K kds v I) (g : Gr M I H I' H') : Dk K kds v I' := by
  obtain ⟨a, kvs, rfl, h1, h2⟩ := h
  exact ⟨a, kvs, rfl, g.ext _ _ h1, h2.gr g⟩
theorem EvP.at {kds : List (Key × D)} (h : EvP te σ I H (Dk K kds)) : EvD K te σ I H (.dic kds) := fun I1 H1 g Q q => h I1 H1 g Q fun v I2 H2 g2 a => q v I2 H2 g2 a.at
theorem ep_dnew : EvP tDNewK σ I H (Dk K []) := fun I1 H1 g Q q p hp => q _ (upd I1 p (.dK [])) _ (.new g.sub hp) ⟨p, [], rfl, upd_same, .nil⟩
theorem ed_dnew : EvD K tDNewK σ I H (.dic []) := ep_dnew.at
/-! ### in, not in, [] -/
theorem dget_some {a : Addr} {kvs : List (Key × V)} {kds : List (Key × D)} {k : Key} {d : D} (h : Rd H a (.dK kvs)) (as : AtK K I kvs kds) (e : valD kds k = some d) : ∃ v, DGet H a (kV k) (some v) ∧ At K I v d := by
  rcases as.val k with ⟨e1, _⟩ | ⟨d', v, e1, e2, av⟩
  · rw [e] at e1
    cases e1
  · rw [e] at e1
    cases e1
    exact ⟨v, .inl ⟨kvs, k, h, rfl, e2.symm⟩, av⟩
theorem dget_any {a : Addr} {kvs : List (Key × V)} {kds : List (Key × D)} (k : Key) (h : Rd H a (.dK kvs)) (as : AtK K I kvs kds) : ∃ o, DGet H a (kV k) o ∧ o.isSome = (valD kds k).isSome := by
  refine ⟨_, .inl ⟨kvs, k, h, rfl, rfl⟩, ?_⟩
  rcases as.val k with ⟨e1, e2⟩ | ⟨d', v, e1, e2, av⟩
  · rw [e1, e2] <;> rfl
  · rw [e1, e2] <;> rfl
theorem ed_din {x : Str} {kds : List (Key × D)} (h1 : EvD K ta σ I H (.str x)) (h2 : EvD K tb σ I H (.dic kds)) : EvD K (tDIn ta tb) σ I H (.bl (valD kds (.inr x)).isSome) := fun I1 H1 g Q q =>
  h1 I1 H1 g _ fun y I2 H2 g2 a2 => h2 I2 H2 (g.tr g2) _ fun v I3 H3 g3 a3 => by
    cases a2
    cases a3 with
    | dic k1 k2 =>
      obtain ⟨o, z1, z2⟩ := dget_any (.inr x) ((sub_le g3.sub).rd _ _ (fun _ _ z => nomatch z) k1) k2
      exact ⟨_, o, rfl, z1, by rw [z2]; exact q _ I3 H3 (g2.tr g3) (.bl _)⟩
theorem ed_dnotin {x : Str} {kds : List (Key × D)} (h1 : EvD K ta σ I H (.str x)) (h2 : EvD K tb σ I H (.dic kds)) : EvD K (tDNotIn ta tb) σ I H (.bl (!(valD kds (.inr x)).isSome)) := fun I1 H1 g Q q =>
  h1 I1 H1 g _ fun y I2 H2 g2 a2 => h2 I2 H2 (g.tr g2) _ fun v I3 H3 g3 a3 => by
    cases a2
    cases a3 with
    | dic k1 k2 =>
      obtain ⟨o, z1, z2⟩ := dget_any (.inr x) ((sub_le g3.sub).rd _ _ (fun _ _ z => nomatch z) k1) k2
      exact ⟨_, o, rfl, z1, by rw [z2]; exact q _ I3 H3 (g2.tr g3) (.bl _)⟩
theorem ed_dget {x : Str} {kds : List (Key × D)} (h1 : EvD K ta σ I H (.dic kds)) (h2 : EvD K tb σ I H (.str x)) (e : valD kds (.inr x) = some d) : EvD K (tDGet ta tb) σ I H d := fun I1 H1 g Q q =>
  h1 I1 H1 g _ fun v I2 H2 g2 a2 => h2 I2 H2 (g.tr g2) _ fun y I3 H3 g3 a3 => by
    cases a3
    cases a2 with
    | dic k1 k2 =>
      obtain ⟨u, z1, z2⟩ := dget_some ((sub_le g3.sub).rd _ _ (fun _ _ z => nomatch z) (g3.le.rd _ _ (fun _ _ z => nomatch z) k1)) (k2.gr g3) e
      exact ⟨_, u, rfl, z1, q u I3 H3 (g2.tr g3) z2⟩
/-- d[k], the dict beside what is known -/
theorem ed_dgetX {i : Nat} {x : Str} {a : Addr} {kvs : List (Key × V)} {kds : List (Key × D)} (hv : σ[i]? = some (some (.ref a))) (ha : H a = some (.dK kvs)) (na : I a = none) (as : AtK K I kvs kds) (h2 : EvD K tb σ I H (.str x)) (e : valD kds (.inr x) = some d) : EvD K (tDGet (tVar i) tb) σ I H d := fun I1 H1 g Q q =>
  ⟨.ref a, hv, h2 I1 H1 g _ fun y I2 H2 g2 a2 => by
    cases a2
    have g02 := g.tr g2
    obtain ⟨u, z1, z2⟩ := dget_some (H := H2) (.inl (g02.keep a _ na ha (by simp))) (as.gr g02) e
    exact ⟨_, u, rfl, z1, q u I2 H2 g2 z2⟩⟩
/-- d[k] = e, the dict beside what is known -/
theorem sx_dput {i : Nat} {x : Str} {a : Addr} {kvs : List (Key × V)} {Dn : Ends} (hv : σ[i]? = some (some (.ref a))) (ha : H a = some (.dK kvs)) (na : I a = none) (hz : kvs.length < 100000) (h1 : EvD K te σ I H d) (h2 : EvD K tb σ I H (.str x)) (s : Sub I H)
    (k : ∀ v I1 H1, Gr [] I H I1 H1 → At K I1 v d → H1 a = some (.dK kvs) → I1 a = none → Dn.nx σ (upd H1 a (.dK (putK kvs (.inr x) v)))) : sDPut (tVar i) tb te Dn σ H :=
  h1 I H (.refl s) _ fun v I1 H1 g1 a1 => ⟨.ref a, hv, h2 I1 H1 g1 _ fun y I2 H2 g2 a2 => by
    cases a2
    have g02 := g1.tr g2
    exact ⟨a, _, rfl, .inl ⟨kvs, .inr x, g02.keep a _ na ha (by simp), rfl, Nat.lt_of_lt_of_le hz (by decide), rfl⟩, k v I2 H2 g02 (a1.gr g2) (g02.keep a _ na ha (by simp)) (g02.out a _ na ha)⟩⟩
/-- {**d, k: v} -/
theorem ep_merge1 {x : Str} {kds : List (Key × D)} {tk tv : TE} (he : EvD K te σ I H (.dic kds)) (hn : (kds.map (·.1)).Nodup) (hz : kds.length < 90000) (hk : EvD K tk σ I H (.str x)) (hv : EvD K tv σ I H d) : EvP (tMerge1 te tk tv) σ I H (Dk K (putD kds (.inr x) d)) := fun I1 H1 g Q q p hp => by
  have g1 : Gr [] I1 H1 I1 (upd H1 p (.dK [])) := .side g.sub hp
  have np := sub_free g.sub hp
  refine he I1 _ (g.tr g1) _ fun v I2 H2 g2 a2 => ?_
  have hp2 := g2.keep p _ np upd_same (by simp)
  have np2 := g2.out p _ np upd_same
  cases a2 with
  | @dic a kvs _ k1 k2 =>
    have rd2 := (sub_le g2.sub).rd a (.dK kvs) (fun _ _ z => nomatch z) k1
    have hap : a ≠ p := fun z => by
      rw [z] at k1
      rcases k1 with k1 | ⟨o, k1⟩ <;> rw [np2] at k1 <;> cases k1
    have hnk : (kvs.map (·.1)).Nodup := by rw [k2.keys]; exact hn
    have hm := mergeK_self (kvs := kvs) hnk
    have hl : kvs.length < 90000 := by rw [k2.length]; exact hz
    refine ⟨a, kvs, rfl, hap, rd2, hp2, by omega, fun q1 hq => ?_⟩
    rw [hm] at hq ⊢
    have hpq : p ≠ q1 := fun z => by
      rw [← z, upd_same] at hq
      cases hq
    have gA : Gr [] I1 H1 I2 (upd H2 p (.dK kvs)) := (g1.tr g2).mut hp np2
    have gB : Gr [] I1 H1 I2 (upd (upd H2 p (.dK kvs)) q1 (.dK [])) := gA.tr (.side gA.sub hq)
    have nq2 := sub_free gA.sub hq
    have hq0 : H1 q1 = none := gA.back hq
    refine hk I2 _ (g.tr gB) _ fun y I3 H3 g3 a3 => hv I3 H3 ((g.tr gB).tr g3) _ fun z I4 H4 g4 a4 => ?_
    cases a3
    have g34 := g3.tr g4
    have hpB : upd (upd H2 p (.dK kvs)) q1 (.dK []) p = some (.dK kvs) := by rw [upd_ne hpq, upd_same]
    have hp4 := g34.keep p _ np2 hpB (by simp)
    have np4 := g34.out p _ np2 hpB
    have hq4 := g34.keep q1 _ nq2 upd_same (by simp)
    have nq4 := g34.out q1 _ nq2 upd_same
    have gD := (((gB.tr g34).mut (o := .dK [(.inr x, z)]) hq0 nq4).mut (o := .dK (putK kvs (.inr x) z)) hp np4).know hp upd_same np4
    exact ⟨.inr x, rfl, hpq, hq4, hp4, q _ _ _ gD ⟨p, _, rfl, upd_same, AtK.le (upd_le np4) _ (((k2.gr g34).put a4 (.inr x)))⟩⟩
/-! ### locks -/
theorem ed_lock {t : TE} {a : Addr} {kvs : List (Key × V)} (ha : I a = some (.dK kvs)) (h : ∀ od I1 H1, Gr [] I H I1 H1 → EvD K t σ (upd I1 a (.frz od (.dK kvs))) (upd H1 a (.frz od (.dK kvs))) d) : EvD K (tLockE t) σ I H d := fun I1 H1 g Q q =>
  ⟨a, .dK kvs, g.sub _ _ (g.ext _ _ ha), trivial, fun od => (h od I1 H1 g).run (upd_sub g.sub) fun v I2 H2 g2 a2 => by
    obtain ⟨gl, e1, e2⟩ := Gr.lock (g.ext _ _ ha) g.sub g2
    exact ⟨e2, q v _ _ gl (At.le (unlock_le e1) d a2)⟩⟩
theorem ep_lock {t : TE} {a : Addr} {kvs : List (Key × V)} {kds : List (Key × D)} (ha : I a = some (.dK kvs)) (h : ∀ od I1 H1, Gr [] I H I1 H1 → EvP t σ (upd I1 a (.frz od (.dK kvs))) (upd H1 a (.frz od (.dK kvs))) (Dk K kds)) : EvP (tLockE t) σ I H (Dk K kds) := fun I1 H1 g Q q =>
  ⟨a, .dK kvs, g.sub _ _ (g.ext _ _ ha), trivial, fun od => h od I1 H1 g _ _ (.refl (upd_sub g.sub)) _ fun v I2 H2 g2 a2 => by
    obtain ⟨gl, e1, e2⟩ := Gr.lock (g.ext _ _ ha) g.sub g2
    refine ⟨e2, q v _ _ gl ?_⟩
    obtain ⟨b, ls, rfl, h1, h2⟩ := a2
    refine ⟨b, ls, rfl, ?_, AtK.le (unlock_le e1) _ h2⟩
    rw [upd_ne fun z => by rw [z, e1] at h1; cases h1]
    exact h1⟩
def keyD : Key → D
  | .inl i => .int i
  | .inr x => .str x
theorem keyD_at (k : Key) : At K I (kV k) (keyD k) := by
  cases k
  · exact .int _
  · exact .str _
/-- a dict that is locked -/
def Fz (K : PySem.W.Frag) (kds : List (Key × D)) (v : V) (I : Hp) : Prop := ∃ a o kvs, v = .ref a ∧ I a = some (.frz o (.dK kvs)) ∧ AtK K I kvs kds
theorem itk_D {a : Addr} {o : Obj} {kvs : List (Key × V)} {kds : List (Key × D)} (h : I a = some (.frz o (.dK kvs))) (as : AtK K I kvs kds) : ItD K (Itk a o kvs) I (kds.map fun kv => keyD kv.1) := by
  have get : ∀ {i : Nat} {d : D}, (kds.map fun kv => keyD kv.1)[i]? = some d → ∃ k v, kvs[i]? = some (k, v) ∧ d = keyD k := fun {i d} e => by
    have ek := as.keys
    have e2 : (kds.map (·.1))[i]?.map keyD = some d := by
      rw [← List.getElem?_map, List.map_map]
      exact e
    rw [← ek, List.getElem?_map] at e2
    obtain ⟨k, hk, rfl⟩ := Option.map_eq_some_iff.mp e2
    obtain ⟨p, hp, rfl⟩ := Option.map_eq_some_iff.mp hk
    exact ⟨p.1, p.2, hp, rfl⟩
  refine ⟨fun i d I3 H3 le s e => ?_, fun i d I3 H3 x H4 le s e y => ?_, fun I3 H3 le s => ?_⟩
  · obtain ⟨k, v, e1, _⟩ := get e
    exact ⟨s _ _ (le _ _ h), (List.getElem?_eq_some_iff.mp e1).1⟩
  · obtain ⟨k, v, e1, rfl⟩ := get e
    obtain ⟨rfl, k2, v2, e2, rfl⟩ := y
    rw [e1] at e2
    cases e2
    exact ⟨I3, .refl s, keyD_at k⟩
  · refine ⟨s _ _ (le _ _ h), ?_⟩
    rw [List.length_map, as.length]
    exact Nat.le_refl _
theorem ei_keys {td : TE} {kds : List (Key × D)} (h : EvP td σ I H (Fz K kds)) : EvI K (iKeys td) σ I H (kds.map fun kv => keyD kv.1) := fun I1 H1 g R q =>
  h I1 H1 g _ fun v I2 H2 g2 ⟨a, o, kvs, ev, ha, as⟩ => ⟨a, o, ev, .inl ⟨kvs, g2.sub _ _ ha, q _ I2 H2 g2 (itk_D ha as)⟩⟩
theorem itd_D {a : Addr} {o : Obj} {kvs : List (Key × V)} {kds : List (Key × D)} (h : I a = some (.frz o (.dK kvs))) (as : AtK K I kvs kds) : ItD K (Itd a o kvs) I (kds.map fun kv => kv.2) := by
  have get : ∀ {kvs : List (Key × V)} {kds : List (Key × D)} {i : Nat} {d : D}, AtK K I kvs kds → (kds.map fun kv => kv.2)[i]? = some d → ∃ k v, kvs[i]? = some (k, v) ∧ At K I v d := by
    intro kvs kds
    induction kvs generalizing kds with
    | nil =>
      intro i d as e
      cases as
      simp at e
    | cons p kvs ih =>
      intro i d as e
      cases as with
      | cons h1 h2 =>
        cases i with
        | zero =>
          cases e
          exact ⟨_, _, rfl, h1⟩
        | succ i => exact ih h2 e
  refine ⟨fun i d I3 H3 le s e => ?_, fun i d I3 H3 x H4 le s e y => ?_, fun I3 H3 le s => ?_⟩
  · obtain ⟨k, v, e1, _⟩ := get as e
    exact ⟨s _ _ (le _ _ h), (List.getElem?_eq_some_iff.mp e1).1⟩
  · obtain ⟨k, v, e1, av⟩ := get as e
    obtain ⟨rfl, k2, e2⟩ := y
    rw [e1] at e2
    cases e2
    exact ⟨I3, .refl s, At.le le.le _ av⟩
  · refine ⟨s _ _ (le _ _ h), ?_⟩
    rw [List.length_map, as.length]
    exact Nat.le_refl _
theorem ei_vals {td : TE} {kds : List (Key × D)} (h : EvP td σ I H (Fz K kds)) : EvI K (iVals td) σ I H (kds.map fun kv => kv.2) := fun I1 H1 g R q =>
  h I1 H1 g _ fun v I2 H2 g2 ⟨a, o, kvs, ev, ha, as⟩ => ⟨a, o, kvs, ev, g2.sub _ _ ha, q _ I2 H2 g2 (itd_D ha as)⟩
/-! ### {k: v for ..} -/
theorem ep_dc {α : Type} {wi : TI} {g : TG} {vs : List Nat} {tk tv : TE} (xs : List α) (enc : α → D) (fk : α → Str) (f : α → D) (S : α → L2.St → Hp → Prop) (hw : EvI K wi σ I H (xs.map enc)) (hz : xs.length < 100000) (hn : (xs.map fk).Nodup)
    (hg : ∀ a, BindD K g (wipe σ vs) (enc a) (S a))
    (hb : ∀ a ∈ xs, ∀ σ2 I1 H1, Gr [] I H I1 H1 → S a σ2 I1 → wipe σ2 vs = wipe σ vs ∧ EvD K tk σ2 I1 H1 (.str (fk a)) ∧ EvD K tv σ2 I1 H1 (f a)) :
    EvP (tDc wi g tYes tk tv vs) σ I H (Dk K (xs.map fun a => (.inr (fk a), f a))) := fun I1 H1 g1 Q q => by
  refine hw I1 H1 g1 _ fun J I2 H2 g2 it => fun Dl hD => ?_
  have g12 := g1.tr g2
  refine ⟨fun i m H' => m = xs.length - i ∧ i ≤ xs.length ∧ ∃ Ii ks, Gr [] I2 H2 Ii H' ∧ Ii Dl = none ∧ H' Dl = some (.dK ks) ∧ AtK K Ii ks ((xs.take i).map fun a => (.inr (fk a), f a)), ⟨xs.length, by simp, Nat.zero_le _, I2, [], .side g2.sub hD, sub_free g2.sub hD, upd_same, .nil⟩, ?_⟩
  rintro i m H3 ⟨rfl, hi, I3, ks, g3, n3, h3, a3⟩
  by_cases hlt : i < xs.length
  · obtain ⟨a, ha⟩ : ∃ a, xs[i]? = some a := ⟨xs[i], by simp [hlt]⟩
    have hm : (xs.map enc)[i]? = some (enc a) := by rw [List.getElem?_map, ha]; rfl
    refine .inr ⟨it.go i _ I3 H3 g3.ext g3.sub hm, fun H' => ∃ Ii ks, Gr [] I2 H2 Ii H' ∧ Ii Dl = none ∧ H' Dl = some (.dK ks) ∧ AtK K Ii ks ((xs.take (i + 1)).map fun a => (.inr (fk a), f a)), fun H' ⟨Ii, ys', z⟩ => ⟨xs.length - (i + 1), by omega, rfl, hlt, Ii, ys', z⟩, fun x H4 y => ?_⟩
    obtain ⟨I4, g4, a4⟩ := it.yld i _ I3 H3 x H4 g3.ext g3.sub hm y
    have g34 := g3.tr g4
    refine hg a x I4 H4 g4.sub a4 _ fun σ2 hS => ?_
    obtain ⟨w2, ek, ev⟩ := hb a (List.mem_of_getElem? ha) σ2 I4 H4 (g12.tr g34) hS
    refine ⟨w2, ?_⟩
    unfold tYes
    dsimp only
    rw [if_pos rfl]
    refine ek I4 H4 (.refl g4.sub) _ fun y1 I5 H5 g5 a5 => ?_
    refine ev I5 H5 g5 _ fun z1 I6 H6 g6 a6 => ?_
    cases a5
    have g46 := g4.tr (g5.tr g6)
    have n6 := g46.out _ _ n3 h3
    have h6 := g46.keep _ _ n3 h3 (by simp)
    have a36 := a3.gr g46
    have hkn : (Sum.inr (fk a) : Key) ∉ ks.map (·.1) := by
      rw [a36.keys, List.map_map]
      intro hm
      obtain ⟨b, hb1, hb2⟩ := List.mem_map.mp hm
      have e2 : xs.take (i + 1) = xs.take i ++ [a] := take_succ ha
      have hn2 : ((xs.take (i + 1)).map fk).Nodup := by
        rw [List.map_take]
        exact hn.sublist (List.take_sublist _ _)
      rw [e2, List.map_append, List.nodup_append] at hn2
      exact hn2.2.2 (fk b) (List.mem_map.mpr ⟨b, hb1, rfl⟩) (fk a) (by simp) (by simpa using hb2)
    refine ⟨ks, .inr (fk a), rfl, h6, ?_, I6, putK ks (.inr (fk a)) z1, (g3.tr g46).mut hD n6, n6, upd_same, ?_⟩
    · rw [a36.length, List.length_map, List.length_take]
      exact Nat.lt_of_le_of_lt (show _ ≤ 100000 by omega) (by decide)
    · rw [putK_snoc hkn, take_succ ha, List.map_append]
      exact a36.append (.cons a6 .nil)
  · have e : i = xs.length := by omega
    subst e
    rw [List.take_length] at a3
    refine .inl ⟨?_, q _ (upd I3 Dl (.dK ks)) H3 ((g2.tr g3).know (g2.back hD) h3 n3) ⟨Dl, ks, rfl, upd_same, AtK.le (upd_le n3) _ a3⟩⟩
    have z := it.stop I3 H3 g3.ext g3.sub
    rw [List.length_map] at z
    exact z
theorem rc_sortedD {kds : List (Key × D)} {ks : List Str} (hk : kds.map (·.1) = ks.map Sum.inr) (hz : ks.length < 64) : RcD K (fun xs H Q => ∃ (a : Addr) (kvs : List (Key × V)) (ks : List Str), xs = [.ref a] ∧ Rd H a (.dK kvs) ∧ kvs.map (·.1) = ks.map Sum.inr ∧ ks.length < 64 ∧
    ∀ ys p, ys.Perm ks → sortedS ys = true → H p = none → Q (.ref p) (upd H p (.lst (ys.map V.str)))) [.dic kds] (.lst ((sortS ks).map D.str)) := fun xs I H s as Q q => by
  obtain ⟨v, rfl, av⟩ := as.one
  cases av with
  | @dic a kvs _ k1 k2 =>
    refine ⟨a, kvs, ks, rfl, (sub_le s).rd a (.dK kvs) (fun _ _ z => nomatch z) k1, k2.keys.trans hk, hz, fun ys p h1 h2 hp => ?_⟩
    have e := sortS_eq h1 h2
    subst e
    exact q _ (upd I p (.lst _)) _ (.new s hp) (at_lst (AtL.of_strs _) (sub_free s hp))
end
end K98

/-! S6a: the defs of stairs and lattice. -/
namespace K98
open PySem PySem.Spec PyProof.Rows L2
/-! ### plain facts of the mirrors -/
def fsz : List P2 → Int → Int
  | [], s => s
  | p :: r, s => fsz r (s + p.2 - p.1 + 1)
theorem fsz_snoc (p : P2) : ∀ (r : List P2) (s : Int), fsz (r ++ [p]) s = fsz r s + p.2 - p.1 + 1
  | [], _ => rfl
  | q :: r, s => fsz_snoc p r _
theorem floorsGo_snoc (p : P2) : ∀ (r : List P2) (s : Int), floorsGo (r ++ [p]) s = floorsGo r s ++ [(fsz r s + p.2 - p.1 + 1, p.2 + fsz r s)]
  | [], _ => rfl
  | q :: r, s => by
    show _ :: floorsGo (r ++ [p]) _ = _ :: (floorsGo r _ ++ _)
    rw [floorsGo_snoc p r]
    rfl
theorem floorsGo_length : ∀ (r : List P2) (s : Int), (floorsGo r s).length = r.length
  | [], _ => rfl
  | q :: r, s => congrArg (· + 1) (floorsGo_length r _)
theorem floorsIn_length (f : List P2) : (floorsIn f).length = f.length := by
  unfold floorsIn
  rw [floorsGo_length, List.length_reverse]
def bef : List P2 → Int → Int
  | [], s => s
  | p :: r, _ => bef r p.1
theorem bef_snoc (p : P2) : ∀ (r : List P2) (s : Int), bef (r ++ [p]) s = p.1
  | [], _ => rfl
  | q :: r, s => bef_snoc p r _
theorem runsGo_snoc (p : P2) : ∀ (r : List P2) (s : Int), runsGo (r ++ [p]) s = runsGo r s ++ [(p.2 - p.1 + 1, p.2 - bef r s)]
  | [], _ => rfl
  | q :: r, s => by
    show _ :: runsGo (r ++ [p]) _ = _ :: (runsGo r _ ++ _)
    rw [runsGo_snoc p r]
    rfl
theorem runsGo_length : ∀ (r : List P2) (s : Int), (runsGo r s).length = r.length
  | [], _ => rfl
  | q :: r, s => congrArg (· + 1) (runsGo_length r _)
theorem kept_zip : ∀ (gs : List P2), ((gs.zip (gs.drop 1 ++ [((0 : Int), (0 : Int))])).filter fun z => !decide (z.2.2 = z.1.2)).map (fun z => z.1) = kept gs
  | [] => rfl
  | [a] => by
    unfold kept
    show (([(a, ((0 : Int), (0 : Int)))] : List (P2 × P2)).filter fun z => !decide (z.2.2 = z.1.2)).map (fun z => z.1) = _
    by_cases h : 0 = a.2
    · rw [if_pos h, List.filter_cons_of_neg (by simpa using h)]
      rfl
    · rw [if_neg h, List.filter_cons_of_pos (by simpa using h)]
      rfl
  | a :: b :: t => by
    have ih := kept_zip (b :: t)
    unfold kept
    show (((a, b) :: (b :: t).zip (t ++ [((0 : Int), (0 : Int))])).filter fun z => !decide (z.2.2 = z.1.2)).map (fun z => z.1) = _
    by_cases h : b.2 = a.2
    · rw [if_pos h, List.filter_cons_of_neg (by simpa using h)]
      exact ih
    · rw [if_neg h, List.filter_cons_of_pos (by simpa using h), List.map_cons]
      exact congrArg (a :: ·) ih
theorem kept_length : ∀ (gs : List P2), (kept gs).length ≤ gs.length
  | [] => Nat.le_refl _
  | [a] => by
    unfold kept
    split <;> simp
  | a :: b :: t => by
    have ih := kept_length (b :: t)
    unfold kept
    split
    · exact Nat.le_succ_of_le ih
    · exact Nat.succ_le_succ ih
theorem formWith_length (gs : List P2) : (formWith gs).length ≤ gs.length := by
  unfold formWith
  rw [List.length_reverse, runsGo_length]
  exact kept_length gs
theorem formBehind_length (a b : List P2) : (formBehind a b).length ≤ a.length + b.length := by
  unfold formBehind
  refine Nat.le_trans (formWith_length _) ?_
  rw [List.length_append, List.length_map, floorsIn_length]
  refine Nat.add_le_add_left (Nat.le_trans (List.length_filter_le _ _) ?_) _
  rw [floorsIn_length]
  exact Nat.le_refl _
theorem stepForm_length (s : Bool × Int) : (stepForm s).length = 1 := by
  unfold stepForm
  split <;> rfl
theorem formOf_length : ∀ (ss : List (Bool × Int)) (f : List P2), (ss.foldl (fun f s => formBehind f (stepForm s)) f).length ≤ f.length + ss.length
  | [], _ => Nat.le_refl _
  | s :: r, f => by
    have h0 := formOf_length r (formBehind f (stepForm s))
    have h := formBehind_length f (stepForm s)
    rw [stepForm_length] at h
    rw [List.length_cons, List.foldl_cons]
    omega
section
variable {P : Program} {w : World} {K : PySem.W.Frag} {mg : Str → Option Value} {base : Heap}
abbrev N_least_in : List Str := ["form", "first", "last"]
theorem sc_least_in : FnScope N_least_in ["form"] (defScope s_least_in) := ⟨rfl, rfl, rfl, by decide +kernel, rfl, by decide +kernel, by decide +kernel⟩
def R_least_in : List D → D → Prop := fun ds d => ∃ f, ds = [encF f] ∧ f.length < 100000 ∧ d = .int (leastIn f)
theorem ok_least_in (T : Txt K mg) : Kn P w K mg base 1 549 ["form"] (pureSp K R_least_in) := by
  refine Kn.pure T.f_least_in sc_least_in (fun _ _ _ _ _ _ us hl => match us, hl with | [_], _ => rfl) (fun ds d r => ?_) fun cdv A outer s H0 E hr => ?_
  · obtain ⟨f, rfl, _⟩ := r
    rfl
  · refine ⟨_, (pss_one (ps_ret (pe_callB (cr_sum rfl) (by rfl) T.z_sum (by decide +kernel) (pa_cons (pe_lc (own := [("first", 1), ("last", 2)]) (g := (gTup K 2 (gCons (gName 1) (gCons (gName 2) gNil)))) (tt := tYes) rfl sc_least_in.nd (pi_tup (pv 0)) (blkOk_by (N := N_least_in) (sc := defScope s_least_in) (by decide +kernel)) (fun _ _ _ _ _ => (pg_tup rfl (pgs_cons (pg_name (i := 1) sc_least_in.nd rfl (Or.inl rfl)) (pgs_cons (pg_name (i := 2) sc_least_in.nd rfl (Or.inl rfl)) pgs_nil)))) (fun _ _ _ _ _ => pts_nil) (fun _ _ _ _ _ => (pe_op op_add (pe_op op_sub (pv 2) (pv 1)) pe_int))) pa_nil)))), ?_⟩
    rintro vs ds d I s1 a ⟨f, rfl, hz, rfl⟩
    obtain ⟨v, rfl, av⟩ := a.one
    exact rt_ret (ed_cb (ea_cons (ed_lcPI f (fun p => p.2 - p.1 + 1) (ei_tup (ed_var rfl av)) hz (fun _ _ => rfl) fun p hp I1 H1 g => ed_op (ed_op (ed_var rfl (.int _)) (ed_var rfl (.int _)) rd_I0) ed_int rd_I0) ea_nil) rc_sum) s1
abbrev N_many_from : List Str := ["form", "least", "low", "high"]
theorem sc_many_from : FnScope N_many_from ["form", "least"] (defScope s_many_from) := ⟨rfl, rfl, rfl, by decide +kernel, rfl, by decide +kernel, by decide +kernel⟩
def R_many_from : List D → D → Prop := fun ds d => ∃ f k, ds = [encF f, .int k] ∧ f.length < 100000 ∧ d = .int (manyFrom f k)
theorem ok_many_from (T : Txt K mg) : Kn P w K mg base 1 429 ["form", "least"] (pureSp K R_many_from) := by
  refine Kn.pure T.f_many_from sc_many_from (fun _ _ _ _ _ _ us hl => match us, hl with | [_, _], _ => rfl) (fun ds d r => ?_) fun cdv A outer s H0 E hr => ?_
  · obtain ⟨f, k, rfl, _⟩ := r
    rfl
  · refine ⟨_, (pss_one (ps_ret (pe_callB (cr_sum rfl) (by rfl) T.z_sum (by decide +kernel) (pa_cons (pe_lc (own := [("low", 2), ("high", 3)]) (g := (gTup K 2 (gCons (gName 2) (gCons (gName 3) gNil)))) rfl sc_many_from.nd (pi_tup (pv 0)) (blkOk_by (N := N_many_from) (sc := defScope s_many_from) (by decide +kernel)) (fun _ _ _ _ _ => (pg_tup rfl (pgs_cons (pg_name (i := 2) sc_many_from.nd rfl (Or.inl rfl)) (pgs_cons (pg_name (i := 3) sc_many_from.nd rfl (Or.inl rfl)) pgs_nil)))) (fun _ _ _ _ _ => (pts_one (pt_cmpR op_ge (pv 3) (pv 1) (nomark _)))) (fun _ _ _ _ _ => (pe_op op_add (pe_op op_sub (pv 3) (pe_callB (call_max2 rfl) (by rfl) T.z_max (by decide +kernel) (pa_cons (pv 2) (pa_cons (pv 1) pa_nil)))) pe_int))) pa_nil)))), ?_⟩
    rintro vs ds d I s1 a ⟨f, k, rfl, hz, rfl⟩
    obtain ⟨v, u, rfl, av, au⟩ := a.two
    cases au
    exact rt_ret (ed_cb (ea_cons (ed_lcPF f (fun p => decide (k ≤ p.2)) (fun p => p.2 - (if k > p.1 then k else p.1) + 1) (ei_tup (ed_var rfl av)) hz fun p hp I1 H1 g =>
      ⟨rfl, eb_test (K := K) (ed_op (ed_var rfl (.int p.2)) (ed_var rfl (.int k)) rd_B0), fun _ => ed_op (ed_op (ed_var rfl (.int p.2)) (ed_cb (ea_cons (ed_var rfl (.int p.1)) (ea_cons (ed_var rfl (.int k)) ea_nil)) rc_max2) rd_I0) ed_int rd_I0⟩) ea_nil) rc_sum) s1
abbrev N_floors_in : List Str := ["form", "found", "size", "first", "last", "rows"]
theorem sc_floors_in : FnScope N_floors_in ["form"] (defScope s_floors_in) := ⟨rfl, rfl, rfl, by decide +kernel, rfl, by decide +kernel, by decide +kernel⟩
def R_floors_in : List D → D → Prop := fun ds d => ∃ f, ds = [encF f] ∧ f.length < 100000 ∧ d = encF (floorsIn f)
theorem ok_floors_in (T : Txt K mg) : Kn P w K mg base 1 556 ["form"] (pureSp K R_floors_in) := by
  refine Kn.pure T.f_floors_in sc_floors_in (fun _ _ _ _ _ _ us hl => match us, hl with | [_], _ => rfl) (fun ds d r => ?_) fun cdv A outer s H0 E hr => ?_
  · obtain ⟨f, rfl, _⟩ := r
    rfl
  · refine ⟨_, (pss_cons (ps_set (i := 1) sc_floors_in.nd rfl (Or.inl rfl) (pe_lst pa_nil)) (pss_cons (ps_set (i := 2) sc_floors_in.nd rfl (Or.inl rfl) pe_int) (pss_cons (ps_for PassesOwn.never rfl (pi_tup (pe_revT (pv 0))) (pg_tup rfl (pgs_cons (pg_name (i := 3) sc_floors_in.nd rfl (Or.inl rfl)) (pgs_cons (pg_name (i := 4) sc_floors_in.nd rfl (Or.inl rfl)) pgs_nil))) (pss_cons (ps_set (i := 5) sc_floors_in.nd rfl (Or.inl rfl) (pe_op op_add (pv 4) (pv 2))) (pss_cons (ps_set (i := 2) sc_floors_in.nd rfl (Or.inl rfl) (pe_op op_add (pe_op op_sub (pe_op op_add (pv 2) (pv 4)) (pv 3)) pe_int)) (pss_one (ps_expr (pe_bm PySem.F.plainAttrs_list PySem.F.slot_list_append PySem.F.type_list_append mt_append (pv 1) (pa_cons (pe_tup (pa_cons (pv 2) (pa_cons (pv 5) pa_nil))) pa_nil))))))) (pss_one (ps_ret (pe_callTy call_tuple_of (by rfl) T.z_tuple (by decide +kernel) (pa_cons (pv 1) pa_nil))))))), ?_⟩
    rintro vs ds d I s1 a ⟨f, rfl, hz, rfl⟩
    obtain ⟨v, rfl, av⟩ := a.one
    refine fun Dn q => sq_new s1 fun l hl nl g0 => sq_int (K := K) ed_int g0.sub fun I1 H1 g1 => ?_
    have g01 := g0.tr g1
    have hl1 := g1.keep l _ nl upd_same (by simp)
    have nl1 := g1.out l _ nl upd_same
    refine sq_for (K := K) (M := [l]) f.reverse encP (fun i σ1 I2 H2 => ∃ ys q3 q4 q5, Gr [] I H0 I2 H2 ∧ I2 l = none ∧ H2 l = some (.lst ys) ∧ AtL K I2 ys ((floorsGo (f.reverse.take i) 0).map encP) ∧ σ1 = [some v, some (.ref l), some (.int (fsz (f.reverse.take i) 0)), q3, q4, q5])
      (by rw [List.map_reverse]; exact ei_tup (ed_revT (ed_var rfl (av.gr g01)))) g1.sub (fun I2 H2 g2 => ⟨[], _, _, _, g01.tr g2, g2.out l _ nl1 hl1, g2.keep l _ nl1 hl1 (by simp), .nil, rfl⟩) ?_ ?_
    · rintro i p x σ1 I2 H2 hp ⟨ys, q3, q4, q5, g2, n2, h2, a2, rfl⟩ I3 H3 g3 a3 N hN
      refine bd_pair x I3 H3 g3.sub a3 _ ?_
      rintro σ2 ⟨x1, y1, ax1, ay1, rfl⟩
      cases ax1
      cases ay1
      refine sq_int (K := K) (ed_op (ed_var rfl (.int p.2)) (ed_var rfl (.int _)) rd_I0) g3.sub fun I4 H4 g4 => ?_
      refine sq_int (K := K) (ed_op (ed_op (ed_op (ed_var rfl (.int _)) (ed_var rfl (.int p.2)) rd_I0) (ed_var rfl (.int p.1)) rd_I0) ed_int rd_I0) g4.sub fun I5 H5 g5 => ?_
      have g35 := g4.tr g5
      have g25 := g3.tr g35
      refine sx_app (K := K) (xs := ys) rfl (g25.keep l _ n2 h2 (by simp)) (g25.out l _ n2 h2) (ed_tup (ea_cons (ed_var rfl (.int _)) (ea_cons (ed_var rfl (.int _)) ea_nil)) (by simp)) g5.sub ?_ fun v4 I6 H6 g6 a6 h6 n6 => ?_
      · rw [a2.length, List.length_map, floorsGo_length]
        exact Nat.lt_of_le_of_lt (List.length_take_le _ _) (by have := (List.getElem?_eq_some_iff.mp hp).1; rw [List.length_reverse] at this; omega)
      · have g26 := g25.tr g6
        refine hN _ I6 _ ((g35.tr g6).any.mutM (by simp) n6) ?_
        rw [take_succ hp, fsz_snoc, floorsGo_snoc, List.map_append]
        exact ⟨_, _, _, _, (g2.tr g26).mut hl n6, n6, upd_same, (a2.gr g26).snoc a6, rfl⟩
    · rintro σ1 I2 H2 s2 ⟨ys, q3, q4, q5, g2, n2, h2, a2, rfl⟩
      rw [List.take_length] at a2
      exact sx_rtup g2 hl rfl h2 n2 a2 q
end
end K98

/-! S6b: form_with .. is_within. -/
namespace K98
open PySem PySem.Spec PyProof.Rows L2
def kd (t : Bool) : Str := if t = true then "town" else "county"
def stepF (s : Bool × Int) : List (Str × D) := [("own_kind", .str (kd s.1)), ("own_least", .int s.2)]
def stepD (s : Bool × Int) : D := .ins 538 (stepF s)
theorem kd_town (t : Bool) : decide (kd t = "town") = t := by cases t <;> decide
section
variable {P : Program} {w : World} {K : PySem.W.Frag} {mg : Str → Option Value} {base : Heap}
abbrev N_form_with : List Str := ["floors", "kept", "found", "before", "size", "rows", "own", "later"]
theorem sc_form_with : FnScope N_form_with ["floors"] (defScope s_form_with) := ⟨rfl, rfl, rfl, by decide +kernel, rfl, by decide +kernel, by decide +kernel⟩
def R_form_with : List D → D → Prop := fun ds d => ∃ gs : List P2, ds = [.lst (gs.map encP)] ∧ gs.length < 50000 ∧ d = encF (formWith gs)
theorem ok_form_with (T : Txt K mg) : Kn P w K mg base 1 561 ["floors"] (pureSp K R_form_with) := by
  refine Kn.pure T.f_form_with sc_form_with (fun _ _ _ _ _ _ us hl => match us, hl with | [_], _ => rfl) (fun ds d r => ?_) fun cdv A outer s H0 E hr => ?_
  · obtain ⟨f, rfl, _⟩ := r
    rfl
  · refine ⟨_, (pss_cons (ps_setLc (i := 1) (own := [("own", 6), ("later", 7)]) (g := (gTup K 2 (gCons (gName 6) (gCons (gName 7) gNil)))) rfl sc_form_with.nd rfl rfl (sw_true rfl rfl rfl (by decide +kernel)) (pi_zip (by rfl) T.z_zip (pa_cons (pv 0) (pa_cons (pe_lst (StX.pa_star (pe_slice sl_list (pv 0) (po_some pe_int) po_none) (pa_cons (pe_tup (pa_cons pe_int (pa_cons pe_int pa_nil))) pa_nil))) pa_nil))) (blkOk_by (N := N_form_with) (sc := defScope s_form_with) (by decide +kernel)) (fun _ _ _ _ _ => (pg_tup rfl (pgs_cons (pg_name (i := 6) sc_form_with.nd rfl (Or.inl rfl)) (pgs_cons (pg_name (i := 7) sc_form_with.nd rfl (Or.inl rfl)) pgs_nil)))) (fun _ _ _ _ _ => (pts_one (pt_cmpR op_ne (pe_ix (ix_tupK (K := K) rfl) (pv 7) pe_int (fun _ _ => rfl)) (pe_ix (ix_tupK (K := K) rfl) (pv 6) pe_int (fun _ _ => rfl)) (nomark _)))) (fun _ _ _ _ _ => (pv 6))) (pss_cons (ps_set (i := 2) sc_form_with.nd rfl (Or.inl rfl) (pe_lst pa_nil)) (pss_cons (ps_set (i := 3) sc_form_with.nd rfl (Or.inl rfl) pe_int) (pss_cons (ps_for PassesOwn.never rfl (pi_list (pv 1)) (pg_tup rfl (pgs_cons (pg_name (i := 4) sc_form_with.nd rfl (Or.inl rfl)) (pgs_cons (pg_name (i := 5) sc_form_with.nd rfl (Or.inl rfl)) pgs_nil))) (pss_cons (ps_expr (pe_bm PySem.F.plainAttrs_list PySem.F.slot_list_append PySem.F.type_list_append mt_append (pv 2) (pa_cons (pe_tup (pa_cons (pe_op op_add (pe_op op_sub (pv 5) (pv 4)) pe_int) (pa_cons (pe_op op_sub (pv 5) (pv 3)) pa_nil))) pa_nil))) (pss_one (ps_set (i := 3) sc_form_with.nd rfl (Or.inl rfl) (pv 4))))) (pss_one (ps_ret (pe_callTy call_tuple_of (by rfl) T.z_tuple (by decide +kernel) (pa_cons (pe_revL (pv 2)) pa_nil)))))))), ?_⟩
    rintro vs ds d I s1 a ⟨gs, rfl, hz, rfl⟩
    obtain ⟨v, rfl, av⟩ := a.one
    refine fun Dn q => sq_asg (K := K) (d := .lst ((kept gs).map encP)) ?_ s1 fun v1 I1 H1 g1 a1 => ?_
    · refine (ed_lc (gs.zip (gs.drop 1 ++ [((0 : Int), (0 : Int))])) (fun z => D.tup [encP z.1, encP z.2]) (fun z => !decide (z.2.2 = z.1.2)) (fun z => encP z.1) (fun z σ2 I => ∃ x y, At K I x (encP z.1) ∧ At K I y (encP z.2) ∧ σ2 = _)
        ((ei_zip (ea_cons (ed_var rfl av) (ea_cons (ed_lst (ea_starL (ed_slL (ed_var rfl av) (eo_some (K := K) ed_int) eo_none) (ea_cons (ed_tup (ea_cons ed_int (ea_cons ed_int ea_nil)) (by simp)) ea_nil)) ?_) ea_nil))).is ?_) ?_ (fun z => bd_pair) fun z hz σ2 I1 H1 g ⟨x, y, ax, ay, e⟩ => ?_).is ?_
      · rw [List.length_append, show ((1 : Int)) = ((1 : Nat) : Int) from rfl, cutD_drop, List.length_drop, List.length_map]
        show _ + 1 ≤ _
        omega
      · rw [show ((1 : Int)) = ((1 : Nat) : Int) from rfl, cutD_drop, ← List.map_drop]
        exact (congrArg (fun z => ((gs.map encP).zip z).map fun z => D.tup [z.1, z.2]) (List.map_append (f := encP) (l₁ := gs.drop 1) (l₂ := [(0, 0)])).symm).trans (zip_enc _ _)
      · rw [List.length_zip]
        omega
      · rw [← kept_zip, List.map_map]
        rfl
      · subst e
        exact ⟨rfl, eb_test (K := K) (ed_op (ed_op (ed_var rfl ay) ed_int (rd_ixT rfl)) (ed_op (ed_var rfl ax) ed_int (rd_ixT rfl)) rd_neI), fun _ => ed_var rfl ax⟩
    refine sq_new g1.sub fun l hl nl g0 => sq_int (K := K) ed_int g0.sub fun I2 H2 g2 => ?_
    have g02 := g0.tr g2
    have hl2 := g2.keep l _ nl upd_same (by simp)
    have nl2 := g2.out l _ nl upd_same
    refine sq_for (K := K) (M := [l]) (kept gs) encP (fun i σ1 I3 H3 => ∃ ys q4 q5, Gr [] I1 H1 I3 H3 ∧ I3 l = none ∧ H3 l = some (.lst ys) ∧ AtL K I3 ys ((runsGo ((kept gs).take i) 0).map encP) ∧ σ1 = [some v, some v1, some (.ref l), some (.int (bef ((kept gs).take i) 0)), q4, q5, none, none])
      (ei_list (ed_var rfl (a1.gr g02))) g2.sub (fun I3 H3 g3 => ⟨[], _, _, g02.tr g3, g3.out l _ nl2 hl2, g3.keep l _ nl2 hl2 (by simp), .nil, rfl⟩) ?_ ?_
    · rintro i p x σ1 I3 H3 hp ⟨ys, q4, q5, g3, n3, h3, a3, rfl⟩ I4 H4 g4 a4 N hN
      refine bd_pair x I4 H4 g4.sub a4 _ ?_
      rintro σ2 ⟨x1, y1, ax1, ay1, rfl⟩
      cases ax1
      cases ay1
      refine sq_app (K := K) (xs := ys) rfl (g4.keep l _ n3 h3 (by simp)) (g4.out l _ n3 h3) (ed_tup (ea_cons (ed_op (ed_op (ed_var rfl (.int p.2)) (ed_var rfl (.int p.1)) rd_I0) ed_int rd_I0) (ea_cons (ed_op (ed_var rfl (.int p.2)) (ed_var rfl (.int _)) rd_I0) ea_nil)) (by simp)) g4.sub ?_ fun v4 I5 H5 g5 a5 h5 n5 => ?_
      · rw [a3.length, List.length_map, runsGo_length]
        exact Nat.lt_of_le_of_lt (List.length_take_le _ _) (Nat.lt_of_lt_of_le (List.getElem?_eq_some_iff.mp hp).1 (Nat.le_trans (kept_length gs) (by omega)))
      · have g35 := g4.tr g5
        have gm : Gr [l] I3 H3 I5 (upd H5 l (.lst (ys ++ [v4]))) := g35.any.mutM (by simp) n5
        have gm4 : Gr [l] I4 H4 I5 (upd H5 l (.lst (ys ++ [v4]))) := g5.any.mutM (by simp) n5
        refine sx_int (K := K) (ed_var rfl (.int p.1)) gm.sub fun I6 H6 g6 => ?_
        have g26 := (g3.tr g35).mut (o := .lst (ys ++ [v4])) hl n5
        have h6 := g6.keep l _ n5 upd_same (by simp)
        have n6 := g6.out l _ n5 upd_same
        refine hN _ I6 _ (gm4.trans g6.any fun m hm _ => by rw [List.mem_singleton.mp hm]; exact ⟨_, upd_same⟩) ?_
        rw [take_succ hp, bef_snoc, runsGo_snoc, List.map_append]
        exact ⟨_, _, _, g26.tr g6, n6, h6, ((a3.gr g35).snoc a5).gr g6, rfl⟩
    · rintro σ1 I3 H3 s3 ⟨ys, q4, q5, g3, n3, h3, a3, rfl⟩
      rw [List.take_length] at a3
      obtain ⟨I4, g4, le, a4⟩ := know_l g3 hl h3 n3 a3
      refine sx_ret (g1.tr g4) q ((ed_cb (ea_cons (ed_revL (ed_var rfl a4)) ea_nil) rc_tupL).is ?_)
      unfold encF formWith
      rw [List.map_reverse]
abbrev N_Step_kind : List Str := ["self"]
theorem sc_Step_kind : FnScope N_Step_kind ["self"] (defScope s_Step_kind) := ⟨rfl, rfl, rfl, by decide +kernel, rfl, by decide +kernel, by decide +kernel⟩
def R_Step_kind : List D → D → Prop := fun ds d => ∃ s, ds = [stepD s] ∧ d = .str (kd s.1)
theorem ok_Step_kind (T : Txt K mg) : Kn P w K mg base 1 504 ["self"] (pureSp K R_Step_kind) := by
  refine Kn.pure T.f_Step_kind sc_Step_kind (fun _ _ _ _ _ _ us hl => match us, hl with | [_], _ => rfl) (fun ds d r => ?_) fun cdv A outer s H0 E hr => ?_
  · obtain ⟨f, rfl, _⟩ := r
    rfl
  · refine ⟨_, (pss_one (ps_ret (pe_fld (pv 0) rfl))), ?_⟩
    rintro vs ds d I s1 a ⟨s, rfl, rfl⟩
    obtain ⟨v, rfl, av⟩ := a.one
    exact rt_ret (ed_fld (ed_var rfl av) T.c_Step T.n_own_kind rfl) s1
abbrev N_Step_least : List Str := ["self"]
theorem sc_Step_least : FnScope N_Step_least ["self"] (defScope s_Step_least) := ⟨rfl, rfl, rfl, by decide +kernel, rfl, by decide +kernel, by decide +kernel⟩
def R_Step_least : List D → D → Prop := fun ds d => ∃ s, ds = [stepD s] ∧ d = .int s.2
theorem ok_Step_least (T : Txt K mg) : Kn P w K mg base 1 512 ["self"] (pureSp K R_Step_least) := by
  refine Kn.pure T.f_Step_least sc_Step_least (fun _ _ _ _ _ _ us hl => match us, hl with | [_], _ => rfl) (fun ds d r => ?_) fun cdv A outer s H0 E hr => ?_
  · obtain ⟨f, rfl, _⟩ := r
    rfl
  · refine ⟨_, (pss_one (ps_ret (pe_fld (pv 0) rfl))), ?_⟩
    rintro vs ds d I s1 a ⟨s, rfl, rfl⟩
    obtain ⟨v, rfl, av⟩ := a.one
    exact rt_ret (ed_fld (ed_var rfl av) T.c_Step T.n_own_least rfl) s1
abbrev N_form_of_step : List Str := ["step"]
theorem sc_form_of_step : FnScope N_form_of_step ["step"] (defScope s_form_of_step) := ⟨rfl, rfl, rfl, by decide +kernel, rfl, by decide +kernel, by decide +kernel⟩
def R_form_of_step : List D → D → Prop := fun ds d => ∃ s, ds = [stepD s] ∧ d = encF (stepForm s)
theorem ok_form_of_step (T : Txt K mg) (G_Step_kind : Kn P w K mg base 1 504 ["self"] (pureSp K R_Step_kind)) (G_Step_least : Kn P w K mg base 1 512 ["self"] (pureSp K R_Step_least)) : Kn P w K mg base 3 568 ["step"] (pureSp K R_form_of_step) := by
  refine Kn.pure T.f_form_of_step sc_form_of_step (fun _ _ _ _ _ _ us hl => match us, hl with | [_], _ => rfl) (fun ds d r => ?_) fun cdv A outer s H0 E hr => ?_
  · obtain ⟨f, rfl, _⟩ := r
    rfl
  · refine ⟨_, (pss_one (ps_ret (pe_ifExp (pt_cmpR op_eq (pp (pv 0) T.c_Step T.p_Step_kind G_Step_kind (hr.mono (by decide))) pe_str (nomark _)) (pe_tup (pa_cons (pe_tup (pa_cons pe_int (pa_cons (pp (pv 0) T.c_Step T.p_Step_least G_Step_least (hr.mono (by decide))) pa_nil))) pa_nil)) (pe_tup (pa_cons (pe_tup (pa_cons (pp (pv 0) T.c_Step T.p_Step_least G_Step_least (hr.mono (by decide))) (pa_cons (pp (pv 0) T.c_Step T.p_Step_least G_Step_least (hr.mono (by decide))) pa_nil))) pa_nil))))), ?_⟩
    rintro vs ds d I s1 a ⟨s, rfl, rfl⟩
    obtain ⟨v, rfl, av⟩ := a.one
    refine rt_ret (ed_if ((eb_test (K := K) (ed_op (ed_prop (ed_var rfl av) ⟨s, rfl, rfl⟩) ed_str rd_eqS)).is (kd_town s.1)) (fun h => ?_) fun h => ?_) s1
    · refine (ed_tup (ea_cons (ed_tup (ea_cons ed_int (ea_cons (ed_prop (ed_var rfl av) ⟨s, rfl, rfl⟩) ea_nil)) (by simp)) ea_nil) (by simp)).is ?_
      unfold stepForm
      rw [if_pos h]
      rfl
    · refine (ed_tup (ea_cons (ed_tup (ea_cons (ed_prop (ed_var rfl av) ⟨s, rfl, rfl⟩) (ea_cons (ed_prop (ed_var rfl av) ⟨s, rfl, rfl⟩) ea_nil)) (by simp)) ea_nil) (by simp)).is ?_
      unfold stepForm
      rw [if_neg (by rw [h]; decide)]
      rfl
end
end K98

/-! S6c: form_behind .. is_within. -/
namespace K98
open PySem PySem.Spec PyProof.Rows L2
theorem atI_last {α : Type} {xs : List α} {d : α} (h : xs ≠ []) : atI xs (-1) = some (xs.getLast?.getD d) := by
  have hl : 0 < xs.length := List.length_pos_iff.mpr h
  unfold atI ixN
  rw [if_neg (by decide), if_pos (by omega)]
  show xs[(((xs.length : Int)) + (-1)).toNat]? = _
  have e : (((xs.length : Int)) + (-1)).toNat = xs.length - 1 := by omega
  rw [e, List.getLast?_eq_getElem?, List.getElem?_eq_getElem (by omega)]
  rfl
theorem stepForm_ne (s : Bool × Int) : stepForm s ≠ [] := by
  unfold stepForm
  split <;> simp
theorem formOf_take_length (ss : List (Bool × Int)) : (formOf ss).length ≤ 1 + ss.length := formOf_length ss [(1, 1)]
section
variable {K : PySem.W.Frag} {σ : L2.St} {I H : Hp} {ta tb te : TE} {d : D}
theorem rd_U {g : Int → Int} {i : Int} : RuD K (rU fun i => .int (g i)) (.int i) (.int (g i)) := fun x I H s a Q q => by
  cases a
  exact ⟨i, rfl, q _ I H (.refl s) (.int _)⟩
theorem ed_neg {i : Int} (h : EvD K te σ I H (.int i)) : EvD K (tUn (rU fun i => .int (-i)) te) σ I H (.int (-i)) := ed_un h rd_U
theorem ed_lcN {α : Type} {wi : TI} {tt : TT} {vs : List Nat} {j : Nat} (xs : List α) (enc : α → D) (b : α → Bool) (f : α → D) (hw : EvI K wi σ I H (xs.map enc)) (hz : xs.length < 100000)
    (hb : ∀ a ∈ xs, ∀ x I1 H1, Gr [] I H I1 H1 → At K I1 x (enc a) → wipe ((wipe σ vs).set j (some x)) vs = wipe σ vs ∧ EvB tt ((wipe σ vs).set j (some x)) I1 H1 (b a) ∧ (b a = true → EvD K te ((wipe σ vs).set j (some x)) I1 H1 (f a))) :
    EvD K (tLc wi (gName j) tt te vs) σ I H (.lst ((xs.filter b).map f)) :=
  ed_lc xs enc b f (fun a σ2 I => ∃ x, At K I x (enc a) ∧ σ2 = (wipe σ vs).set j (some x)) hw hz (fun a => bd_name) fun a ha σ2 I1 H1 g ⟨x, ax, e⟩ => by
    subst e
    exact hb a ha x I1 H1 g ax
/-- all of them -/
theorem ed_lcNY {α : Type} {wi : TI} {vs : List Nat} {j : Nat} (xs : List α) (enc : α → D) (f : α → D) (hw : EvI K wi σ I H (xs.map enc)) (hz : xs.length < 100000) (hv : ∀ x, wipe ((wipe σ vs).set j (some x)) vs = wipe σ vs)
    (hb : ∀ a ∈ xs, ∀ x I1 H1, Gr [] I H I1 H1 → At K I1 x (enc a) → EvD K te ((wipe σ vs).set j (some x)) I1 H1 (f a)) :
    EvD K (tLc wi (gName j) tYes te vs) σ I H (.lst (xs.map f)) := by
  have h := ed_lcN (te := te) (tt := tYes) xs enc (fun _ => true) f hw hz fun a ha x I1 H1 g ax => ⟨hv x, eb_yes, fun _ => hb a ha x I1 H1 g ax⟩
  rwa [filter_yes] at h
theorem ed_lcPPY {wi : TI} {vs : List Nat} {j k : Nat} (xs : List P2) (f : P2 → P2) (hw : EvI K wi σ I H (xs.map encP)) (hz : xs.length < 100000)
    (hv : ∀ p ∈ xs, wipe (((wipe σ vs).set j (some (.int p.1))).set k (some (.int p.2))) vs = wipe σ vs)
    (hb : ∀ p ∈ xs, ∀ I1 H1, Gr [] I H I1 H1 → EvD K te (((wipe σ vs).set j (some (.int p.1))).set k (some (.int p.2))) I1 H1 (encP (f p))) :
    EvD K (tLc wi (gTup K 2 (gCons (gName j) (gCons (gName k) gNil))) tYes te vs) σ I H (.lst ((xs.map f).map encP)) := by
  have h := ed_lcPP (te := te) (tt := tYes) xs (fun _ => true) f hw hz fun p hp I1 H1 g => ⟨hv p hp, eb_yes, fun _ => hb p hp I1 H1 g⟩
  rwa [filter_yes] at h
end
section
variable {P : Program} {w : World} {K : PySem.W.Frag} {mg : Str → Option Value} {base : Heap}
theorem START_at (T : Txt K mg) (I : Hp) : At K I (.ref 544) (encF [(1, 1)]) := .tup (T.tups I).2.1 (.cons (.tup (T.tups I).2.2.1 (.cons (.int 1) (.cons (.int 1) .nil))) .nil)
abbrev N_form_behind : List Str := ["one", "other", "most", "least", "ahead", "size", "rows"]
theorem sc_form_behind : FnScope N_form_behind ["one", "other"] (defScope s_form_behind) := ⟨rfl, rfl, rfl, by decide +kernel, rfl, by decide +kernel, by decide +kernel⟩
def R_form_behind : List D → D → Prop := fun ds d => ∃ f g, ds = [encF f, encF g] ∧ f.length < 20000 ∧ g.length < 20000 ∧ g ≠ [] ∧ d = encF (formBehind f g)
theorem ok_form_behind (T : Txt K mg) (G_least_in : Kn P w K mg base 1 549 ["form"] (pureSp K R_least_in)) (G_floors_in : Kn P w K mg base 1 556 ["form"] (pureSp K R_floors_in)) (G_form_with : Kn P w K mg base 1 561 ["floors"] (pureSp K R_form_with)) : Kn P w K mg base 2 573 ["one", "other"] (pureSp K R_form_behind) := by
  refine Kn.pure T.f_form_behind sc_form_behind (fun _ _ _ _ _ _ us hl => match us, hl with | [_, _], _ => rfl) (fun ds d r => ?_) fun cdv A outer s H0 E hr => ?_
  · obtain ⟨f, g, rfl, _⟩ := r
    rfl
  · refine ⟨_, (pss_cons (ps_asg (pe_tup (pa_cons (pe_ix ix_tup (pe_ix ix_tup (pv 1) (pe_un un_neg pe_int) (fun _ _ => rfl)) pe_int (fun _ _ => rfl)) (pa_cons (pc G_least_in (hr.mono (by decide)) T.g_least_in (pa_cons (pv 0) pa_nil)) pa_nil))) (pg_tup rfl (pgs_cons (pg_name (i := 2) sc_form_behind.nd rfl (Or.inr rfl)) (pgs_cons (pg_name (i := 3) sc_form_behind.nd rfl (Or.inr rfl)) pgs_nil)))) (pss_cons (ps_setLc (i := 4) (own := [("size", 5), ("rows", 6)]) (g := (gTup K 2 (gCons (gName 5) (gCons (gName 6) gNil)))) (tt := tYes) rfl sc_form_behind.nd rfl rfl (sw_true rfl rfl rfl (by decide +kernel)) (pi_tup (pc G_floors_in (hr.mono (by decide)) T.g_floors_in (pa_cons (pv 0) pa_nil))) (blkOk_by (N := N_form_behind) (sc := defScope s_form_behind) (by decide +kernel)) (fun _ _ _ _ _ => (pg_tup rfl (pgs_cons (pg_name (i := 5) sc_form_behind.nd rfl (Or.inl rfl)) (pgs_cons (pg_name (i := 6) sc_form_behind.nd rfl (Or.inl rfl)) pgs_nil)))) (fun _ _ _ _ _ => pts_nil) (fun _ _ _ _ _ => (pe_tup (pa_cons (pv 5) (pa_cons (pe_callB (call_max2 rfl) (by rfl) T.z_max (by decide +kernel) (pa_cons (pv 6) (pa_cons (pv 2) pa_nil))) pa_nil))))) (pss_one (ps_ret (pc G_form_with (hr.mono (by decide)) T.g_form_with (pa_cons (pe_op op_cat (pv 4) (pe_lc (own := [("size", 5), ("rows", 6)]) (g := (gTup K 2 (gCons (gName 5) (gCons (gName 6) gNil)))) rfl sc_form_behind.nd (pi_tup (pc G_floors_in (hr.mono (by decide)) T.g_floors_in (pa_cons (pv 1) pa_nil))) (blkOk_by (N := N_form_behind) (sc := defScope s_form_behind) (by decide +kernel)) (fun _ _ _ _ _ => (pg_tup rfl (pgs_cons (pg_name (i := 5) sc_form_behind.nd rfl (Or.inl rfl)) (pgs_cons (pg_name (i := 6) sc_form_behind.nd rfl (Or.inl rfl)) pgs_nil)))) (fun _ _ _ _ _ => (pts_one (pt_cmpR op_gt (pv 5) (pv 3) (nomark _)))) (fun _ _ _ _ _ => (pe_tup (pa_cons (pv 5) (pa_cons (pv 6) pa_nil)))))) pa_nil)))))), ?_⟩
    rintro vs ds d I s1 a ⟨f, g, rfl, hf, hg, hn, rfl⟩
    obtain ⟨v, u, rfl, av, au⟩ := a.two
    have hn' : g.map encP ≠ [] := fun z => hn (List.map_eq_nil_iff.mp z)
    have hl : (g.map encP).getLast?.getD (encP (0, 0)) = encP (g.getLast?.getD (0, 0)) := by
      rw [List.getLast?_map]
      cases g.getLast? <;> rfl
    refine fun Dn q => sq_tgt (ed_tup (ea_cons (ed_op (ed_op (ed_var rfl au) (ed_neg ed_int) (rd_ixT ((atI_last (d := encP (0, 0)) hn').trans (congrArg some hl)))) ed_int (rd_ixT (d := .int (topOf g)) rfl)) (ea_cons (ed_call (ea_cons (ed_var rfl av) ea_nil) ⟨f, rfl, by omega, rfl⟩) ea_nil)) (by simp)) bd_pair s1 ?_
    rintro σ2 I1 H1 g1 ⟨x, y, ax, ay, rfl⟩
    cases ax
    cases ay
    refine sq_asg (K := K) (ed_lcPPY (floorsIn f) (fun p => (p.1, if topOf g > p.2 then topOf g else p.2)) (ei_tup (ed_call (ea_cons (ed_var rfl (av.gr g1)) ea_nil) ⟨f, rfl, by omega, rfl⟩)) (by rw [floorsIn_length]; omega) (fun _ _ => rfl) fun p hp I2 H2 g2 =>
      ed_tup (ea_cons (ed_var rfl (.int p.1)) (ea_cons (ed_cb (ea_cons (ed_var rfl (.int p.2)) (ea_cons (ed_var rfl (.int (topOf g))) ea_nil)) rc_max2) ea_nil)) (by simp)) g1.sub fun v4 I2 H2 g2 a2 => ?_
    refine sx_ret (g1.tr g2) q (ed_call (ea_cons ((ed_op (ed_var rfl a2) (ed_lcPP (floorsIn g) (fun p => decide (p.1 > leastIn f)) id (ei_tup (ed_call (ea_cons (ed_var rfl (au.gr (g1.tr g2))) ea_nil) ⟨g, rfl, by omega, rfl⟩)) (by rw [floorsIn_length]; omega) fun p hp I3 H3 g3 =>
      ⟨rfl, eb_test (K := K) (ed_op (ed_var rfl (.int p.1)) (ed_var rfl (.int (leastIn f))) rd_B0), fun _ => ed_tup (ea_cons (ed_var rfl (.int p.1)) (ea_cons (ed_var rfl (.int p.2)) ea_nil)) (by simp)⟩) (rd_catL ?_)).is (congrArg D.lst (List.map_append).symm)) ea_nil) ⟨_, rfl, ?_, ?_⟩)
    · simp only [List.length_map, floorsIn_length]
      have := List.length_filter_le (fun p : P2 => decide (p.1 > leastIn f)) (floorsIn g)
      rw [floorsIn_length] at this
      omega
    · simp only [List.length_append, List.length_map, floorsIn_length]
      have := List.length_filter_le (fun p : P2 => decide (p.1 > leastIn f)) (floorsIn g)
      rw [floorsIn_length] at this
      omega
    · rw [List.map_id]
      rfl
abbrev N_form_of_steps : List Str := ["steps", "found", "step"]
theorem sc_form_of_steps : FnScope N_form_of_steps ["steps"] (defScope s_form_of_steps) := ⟨rfl, rfl, rfl, by decide +kernel, rfl, by decide +kernel, by decide +kernel⟩
def R_form_of_steps : List D → D → Prop := fun ds d => ∃ ss : List (Bool × Int), ds = [.tup (ss.map stepD)] ∧ ss.length < 1000 ∧ d = encF (formOf ss)
theorem ok_form_of_steps (T : Txt K mg) (G_form_of_step : Kn P w K mg base 3 568 ["step"] (pureSp K R_form_of_step)) (G_form_behind : Kn P w K mg base 2 573 ["one", "other"] (pureSp K R_form_behind)) : Kn P w K mg base 4 594 ["steps"] (pureSp K R_form_of_steps) := by
  refine Kn.pure T.f_form_of_steps sc_form_of_steps (fun _ _ _ _ _ _ us hl => match us, hl with | [_], _ => rfl) (fun ds d r => ?_) fun cdv A outer s H0 E hr => ?_
  · obtain ⟨f, rfl, _⟩ := r
    rfl
  · refine ⟨_, (pss_cons (ps_set (i := 1) sc_form_of_steps.nd rfl (Or.inl rfl) (pe_glob (v := .ref 544) rfl T.g_START rfl)) (pss_cons (ps_for PassesOwn.never rfl (pi_tup (pv 0)) (pg_name (i := 2) sc_form_of_steps.nd rfl (Or.inl rfl)) (pss_one (ps_set (i := 1) sc_form_of_steps.nd rfl (Or.inl rfl) (pc G_form_behind (hr.mono (by decide)) T.g_form_behind (pa_cons (pv 1) (pa_cons (pc G_form_of_step (hr.mono (by decide)) T.g_form_of_step (pa_cons (pv 2) pa_nil)) pa_nil)))))) (pss_one (ps_ret (pv 1))))), ?_⟩
    rintro vs ds d I s1 a ⟨ss, rfl, hz, rfl⟩
    obtain ⟨v, rfl, av⟩ := a.one
    refine fun Dn q => sq_asg (K := K) (ed_c (START_at T _)) s1 fun v1 I1 H1 g1 a1 => ?_
    refine sq_for (K := K) (M := []) ss stepD (fun i σ1 I2 H2 => ∃ w q2, Gr [] I H0 I2 H2 ∧ At K I2 w (encF (formOf (ss.take i))) ∧ σ1 = [some v, some w, q2]) (ei_tup (ed_var rfl (av.gr g1))) g1.sub (fun I2 H2 g2 => ⟨_, _, g1.tr g2, a1.gr g2, rfl⟩) ?_ ?_
    · rintro i p x σ1 I2 H2 hp ⟨w1, q2, g2, a2, rfl⟩ I3 H3 g3 a3 N hN
      refine bd_name x I3 H3 g3.sub a3 _ ?_
      rintro σ2 ⟨x1, ax1, rfl⟩
      refine sx_asg (K := K) (ed_call (ea_cons (ed_var rfl (a2.gr g3)) (ea_cons (ed_call (ea_cons (ed_var rfl ax1) ea_nil) ⟨p, rfl, rfl⟩) ea_nil)) ⟨_, _, rfl, ?_, ?_, stepForm_ne p, rfl⟩) g3.sub fun v4 I4 H4 g4 a4 => ?_
      · have h := formOf_take_length (ss.take i)
        rw [List.length_take] at h
        omega
      · rw [stepForm_length]
        omega
      · refine hN _ I4 _ g4 ⟨_, _, (g2.tr g3).tr g4, ?_, rfl⟩
        rw [take_succ hp]
        unfold formOf
        rw [List.foldl_append]
        exact a4
    · rintro σ1 I2 H2 s2 ⟨w1, q2, g2, a2, rfl⟩
      rw [List.take_length] at a2
      exact sx_ret g2 q (ed_var rfl a2)
abbrev N_places_of : List Str := ["one", "other", "low", "high", "place"]
theorem sc_places_of : FnScope N_places_of ["one", "other"] (defScope s_places_of) := ⟨rfl, rfl, rfl, by decide +kernel, rfl, by decide +kernel, by decide +kernel⟩
def R_places_of : List D → D → Prop := fun ds d => ∃ f g, ds = [encF f, encF g] ∧ f.length + g.length < 30 ∧ d = .lst ((sortI (placesRaw f g)).map D.int)
theorem ok_places_of (T : Txt K mg) : Kn P w K mg base 1 439 ["one", "other"] (pureSp K R_places_of) := by
  refine Kn.pure T.f_places_of sc_places_of (fun _ _ _ _ _ _ us hl => match us, hl with | [_, _], _ => rfl) (fun ds d r => ?_) fun cdv A outer s H0 E hr => ?_
  · obtain ⟨f, g, rfl, _⟩ := r
    rfl
  · refine ⟨_, (pss_one (ps_ret (pe_callB (cr_sortedSet rfl) (by rfl) T.z_sorted (by decide +kernel) (pa_cons (pe_callTy (call_setL rfl) (by rfl) T.z_set (by decide +kernel) (pa_cons (pe_lst (pa_cons pe_int (StX.pa_star (pe_lc2 (own := [("low", 2), ("high", 3), ("place", 4)]) (g := (gTup K 2 (gCons (gName 2) (gCons (gName 3) gNil)))) (g1 := (gName 4)) (tt := tYes) (tt1 := tYes) (vs1 := [4]) rfl sc_places_of.nd (pi_tup (pe_op op_catA (pv 0) (pv 1))) (blkOk_by (N := N_places_of) (sc := defScope s_places_of) (by decide +kernel)) (by decide) (fun _ _ _ _ _ => (pg_tup rfl (pgs_cons (pg_name (i := 2) sc_places_of.nd rfl (Or.inl rfl)) (pgs_cons (pg_name (i := 3) sc_places_of.nd rfl (Or.inl rfl)) pgs_nil)))) (fun _ _ _ _ _ => pts_nil) (fun _ _ _ _ _ => (pi_tupK (K := K) rfl (pe_tup (pa_cons (pv 2) (pa_cons (pe_op op_add (pv 3) pe_int) pa_nil))))) (fun _ _ _ _ _ => (pg_name (i := 4) sc_places_of.nd rfl (Or.inl rfl))) (fun _ _ _ _ _ => pts_nil) (fun _ _ _ _ _ => (pv 4))) pa_nil))) pa_nil)) pa_nil)))), ?_⟩
    rintro vs ds d I s1 a ⟨f, g, rfl, hz, rfl⟩
    obtain ⟨v, u, rfl, av, au⟩ := a.two
    have hlen : ((f ++ g).flatMap fun p => [p.1, p.2 + 1]).length ≤ (f ++ g).length * 2 := flat_len fun a _ => Nat.le_refl _
    rw [List.length_append] at hlen
    refine rt_ret (ed_sortset ((ed_lst (ea_cons ed_int (ea_starL (ed_lc2 (f ++ g) encP (fun p => [p.1, p.2 + 1]) D.int (fun _ b => .int b) (fun p σ2 I => ∃ x y, At K I x (.int p.1) ∧ At K I y (.int p.2) ∧ σ2 = ((wipe (L2.start N_places_of [v, u]) [2, 3, 4]).set 2 (some x)).set 3 (some y)) (fun p b σ2 σ3 I => ∃ x, At K I x (.int b) ∧ σ3 = (wipe σ2 [4]).set 4 (some x))
      ((ei_tup (ed_op (ed_var rfl av) (ed_var rfl au) (rd_catA ?_))).is (List.map_append).symm) ?_ (fun _ _ => by simp) (fun p => bd_pair) ?_) ea_nil)) ?_).is ?_) ?_) s1
    · simp only [List.length_map]
      omega
    · rw [List.length_append]
      omega
    · rintro p hp σ2 I1 H1 g1 ⟨x, y, ax, ay, e⟩
      subst e
      cases ax
      cases ay
      refine ⟨rfl, ei_tup (ed_tup (ea_cons (ed_var rfl (.int p.1)) (ea_cons (ed_op (ed_var rfl (.int p.2)) ed_int rd_I0) ea_nil)) (by simp)), fun b => bd_name, ?_⟩
      rintro b hb σ3 I2 H2 le g2 ⟨x, ax, e⟩
      subst e
      exact ⟨rfl, ed_var rfl ax⟩
    · rw [List.append_nil, List.length_cons]
      have h2 := flat_len (xs := f ++ g) (ys := fun a => ([a.1, a.2 + 1]).map fun b => D.int b) (n := 2) fun a _ => Nat.le_refl _
      rw [List.length_append] at h2
      omega
    · rw [List.append_nil]
      unfold placesRaw
      rw [List.map_cons, List.map_flatMap]
    · unfold placesRaw
      rw [List.length_cons]
      omega
abbrev N_is_within : List Str := ["one", "other", "place"]
theorem sc_is_within : FnScope N_is_within ["one", "other"] (defScope s_is_within) := ⟨rfl, rfl, rfl, by decide +kernel, rfl, by decide +kernel, by decide +kernel⟩
def R_is_within : List D → D → Prop := fun ds d => ∃ f g, ds = [encF f, encF g] ∧ f.length + g.length < 30 ∧ d = .bl (isWithin f g)
theorem ok_is_within (T : Txt K mg) (G_places_of : Kn P w K mg base 1 439 ["one", "other"] (pureSp K R_places_of)) (G_many_from : Kn P w K mg base 1 429 ["form", "least"] (pureSp K R_many_from)) : Kn P w K mg base 2 451 ["one", "other"] (pureSp K R_is_within) := by
  refine Kn.pure T.f_is_within sc_is_within (fun _ _ _ _ _ _ us hl => match us, hl with | [_, _], _ => rfl) (fun ds d r => ?_) fun cdv A outer s H0 E hr => ?_
  · obtain ⟨f, g, rfl, _⟩ := r
    rfl
  · refine ⟨_, (pss_one (ps_ret (pe_callB (cr_all rfl) (by rfl) T.z_all (by decide +kernel) (pa_cons (pe_lc (own := [("place", 2)]) (g := (gName 2)) (tt := tYes) rfl sc_is_within.nd (pi_list (pc G_places_of (hr.mono (by decide)) T.g_places_of (pa_cons (pv 0) (pa_cons (pv 1) pa_nil)))) (blkOk_by (N := N_is_within) (sc := defScope s_is_within) (by decide +kernel)) (fun _ _ _ _ _ => (pg_name (i := 2) sc_is_within.nd rfl (Or.inl rfl))) (fun _ _ _ _ _ => pts_nil) (fun _ _ _ _ _ => (pe_cmpR op_ge (pc G_many_from (hr.mono (by decide)) T.g_many_from (pa_cons (pv 0) (pa_cons (pv 2) pa_nil))) (pc G_many_from (hr.mono (by decide)) T.g_many_from (pa_cons (pv 1) (pa_cons (pv 2) pa_nil))) (nomark _)))) pa_nil)))), ?_⟩
    rintro vs ds d I s1 a ⟨f, g, rfl, hz, rfl⟩
    obtain ⟨v, u, rfl, av, au⟩ := a.two
    refine rt_ret ((ed_cb (ea_cons ((ed_lcNY (sortI (placesRaw f g)) D.int (fun k => .bl (decide (manyFrom f k ≥ manyFrom g k))) (ei_list (ed_call (ea_cons (ed_var rfl av) (ea_cons (ed_var rfl au) ea_nil)) ⟨f, g, rfl, hz, rfl⟩)) ?_ (fun _ => rfl) fun k hk x I1 H1 g1 ax => ?_).is (congrArg D.lst (List.map_map (f := fun k => decide (manyFrom f k ≥ manyFrom g k)) (g := D.bl)).symm)) ea_nil) rc_all).is ?_) s1
    · have hlen : ((f ++ g).flatMap fun p => [p.1, p.2 + 1]).length ≤ (f ++ g).length * 2 := flat_len fun a _ => Nat.le_refl _
      rw [List.length_append] at hlen
      refine Nat.lt_of_le_of_lt sortI_len ?_
      unfold placesRaw
      rw [List.length_cons]
      omega
    · exact ed_op (ed_call (ea_cons (ed_var rfl (av.gr g1)) (ea_cons (ed_var rfl ax) ea_nil)) ⟨f, k, rfl, by omega, rfl⟩) (ed_call (ea_cons (ed_var rfl (au.gr g1)) (ea_cons (ed_var rfl ax) ea_nil)) ⟨g, k, rfl, by omega, rfl⟩) rd_B0
    · rw [List.all_map]
      exact congrArg D.bl (all_same (p := fun k => decide (manyFrom g k ≤ manyFrom f k)) fun k => sortI_mem k)
end
end K98

/-! S6d: steps and scripts. -/
namespace K98
open PySem PySem.Spec PyProof.Rows L2
def scriptF (ss : List (Bool × Int)) : List (Str × D) := [("own_steps", .tup (ss.map stepD)), ("own_form", encF (formOf ss))]
def scriptD (ss : List (Bool × Int)) : D := .ins 756 (scriptF ss)
theorem inV_strs (x : Str) (ns : List Str) : inV (.str x) (ns.map V.str) = ns.contains x := by
  unfold inV
  rw [List.any_map]
  induction ns with
  | nil => rfl
  | cons n ns ih =>
    rw [List.any_cons, List.contains_cons, ih]
    show ((n == x) || _) = ((x == n) || _)
    rw [Bool.beq_comm]
theorem inV_ints (x : Int) (ns : List Int) : inV (.int x) (ns.map V.int) = ns.contains x := by
  unfold inV
  rw [List.any_map]
  induction ns with
  | nil => rfl
  | cons n ns ih =>
    rw [List.any_cons, List.contains_cons, ih]
    show ((n == x) || _) = ((x == n) || _)
    rw [Bool.beq_comm]
theorem flat_strs (ns : List Str) : (ns.map V.str).all flatV = true := by
  rw [List.all_map, List.all_eq_true]
  exact fun _ _ => rfl
theorem flat_ints (ns : List Int) : (ns.map V.int).all flatV = true := by
  rw [List.all_map, List.all_eq_true]
  exact fun _ _ => rfl
section
variable {K : PySem.W.Frag} {σ : L2.St} {I H : Hp} {ta tb te : TE} {d : D}
theorem rd_inST {neg : Bool} {x : Str} {ns : List Str} : RvD K (rIn K neg) (.str x) (.tup (ns.map D.str)) (.bl (if neg then !ns.contains x else ns.contains x)) := fun u v I H s a b Q q => by
  cases a
  cases b with
  | tup h1 h2 =>
    have e := AtL.strs ns h2
    subst e
    refine ⟨_, _, rfl, .inr ((sub_le s).t h1), rfl, flat_strs ns, ?_⟩
    rw [inV_strs]
    exact q _ I H (.refl s) (.bl _)
theorem rd_inSL {neg : Bool} {x : Str} {ns : List Str} : RvD K (rIn K neg) (.str x) (.lst (ns.map D.str)) (.bl (if neg then !ns.contains x else ns.contains x)) := fun u v I H s a b Q q => by
  cases a
  cases b with
  | lst h1 h2 =>
    have e := AtL.strs ns h2
    subst e
    refine ⟨_, _, rfl, .inl (.of (s _ _ h1)), rfl, flat_strs ns, ?_⟩
    rw [inV_strs]
    exact q _ I H (.refl s) (.bl _)
theorem rd_inIL {neg : Bool} {x : Int} {ns : List Int} : RvD K (rIn K neg) (.int x) (.lst (ns.map D.int)) (.bl (if neg then !ns.contains x else ns.contains x)) := fun u v I H s a b Q q => by
  cases a
  cases b with
  | lst h1 h2 =>
    have e := AtL.ints ns h2
    subst e
    refine ⟨_, _, rfl, .inl (.of (s _ _ h1)), rfl, flat_ints ns, ?_⟩
    rw [inV_ints]
    exact q _ I H (.refl s) (.bl _)
end
section
variable {P : Program} {w : World} {K : PySem.W.Frag} {mg : Str → Option Value} {base : Heap}
theorem KINDS_at (T : Txt K mg) (I : Hp) : At K I (.ref 473) (.tup ((["town", "county"] : List Str).map D.str)) := .tup (T.tups I).1 (.cons (.str _) (.cons (.str _) .nil))
theorem E308_at (T : Txt K mg) (I : Hp) : At K I (.ref 308) (encF []) := .tup (T.tups I).2.2.2.1 .nil
theorem E602_at (T : Txt K mg) (I : Hp) : At K I (.ref 602) (.tup []) := .tup (T.tups I).2.2.2.2 .nil
abbrev N_Step_init : List Str := ["self", "kind", "least"]
theorem sc_Step_init : FnScope N_Step_init ["self", "kind", "least"] (defScope s_Step_init) := ⟨rfl, rfl, rfl, by decide +kernel, rfl, by decide +kernel, by decide +kernel⟩
def R_Step_init : List D → List (Str × D) → Prop := fun ds fs => ∃ (t : Bool) (n : Int), ds = [.str (kd t), .int n] ∧ 1 ≤ n ∧ fs = stepF (t, n)
theorem ok_Step_init (T : Txt K mg) : Kn P w K mg base 1 487 ["self", "kind", "least"] (initSp K 538 R_Step_init) := by
  refine Kn.init T.f_Step_init sc_Step_init (fun _ _ _ _ _ _ us hl => match us, hl with | [_, _, _], _ => rfl) (fun ds fs r => ?_) fun cdv A outer s H0 E hr => ?_
  · obtain ⟨t, n, rfl, _⟩ := r
    rfl
  · refine ⟨_, (pss_cons (ps_if (PW.pt (pw_or (pt_cmpR op_notIn_seq (pv 1) (pe_glob (v := .ref 473) rfl T.g_KINDS rfl) (by rfl)) (pw_or1 (pt_cmpR op_lt (pv 2) pe_int (nomark _))))) (pss_one ps_never) pss_nil) (pss_one (ps_asg (pe_tup (pa_cons (pv 1) (pa_cons (pv 2) pa_nil))) (pg_tup rfl (pgs_cons (pg_fld (pv 0)) (pgs_cons (pg_fld (pv 0)) pgs_nil)))))), ?_⟩
    rintro x dx ws ds fs I s1 nx hx a ⟨t, n, rfl, hn, rfl⟩
    obtain ⟨v, u, rfl, av, au⟩ := a.two
    cases av
    cases au
    refine fun Dn q => sq_ifN ((eb_or (a := false) (b := false) ((eb_test (K := K) (ed_op (ed_var rfl (.str (kd t))) (ed_c (KINDS_at T _)) rd_inST)).is ?_) fun _ => (eb_test (K := K) (ed_op (ed_var rfl (.int n)) ed_int rd_B0)).is ?_)) s1 fun I1 H1 g1 => ?_
    · cases t <;> decide
    · exact decide_eq_false (by omega)
    · refine sx_fld2 (K := K) (d := .str (kd t)) (e := .int n) rfl (g1.keep x _ nx hx (by simp)) (g1.out x _ nx hx) T.c_Step T.n_own_kind T.n_own_least (by decide) (ea_cons (ed_var rfl (.str _)) (ea_cons (ed_var rfl (.int _)) ea_nil)) g1.sub fun v w I2 H2 g2 av aw n2 h2 => ?_
      exact q _ I2 H2 _ (g1.any.trans g2 fun m hm _ => by rw [List.mem_singleton.mp hm]; exact ⟨_, g1.keep x _ nx hx (by simp)⟩) n2 h2 (.cons av (.cons aw .nil))
abbrev N_Script_init : List Str := ["self", "steps"]
theorem sc_Script_init : FnScope N_Script_init ["self", "steps"] (defScope s_Script_init) := ⟨rfl, rfl, rfl, by decide +kernel, rfl, by decide +kernel, by decide +kernel⟩
def R_Script_init : List D → List (Str × D) → Prop := fun ds fs => ∃ ss : List (Bool × Int), (ds = [.lst (ss.map stepD)] ∨ ds = [.tup (ss.map stepD)]) ∧ ss.length < 1000 ∧ fs = scriptF ss
theorem ok_Script_init (T : Txt K mg) (G_form_of_steps : Kn P w K mg base 4 594 ["steps"] (pureSp K R_form_of_steps)) : KnD P w K mg base 5 610 ["self", "steps"] (.ref 602) (initSp K 756 R_Script_init) := by
  refine KnD.init (n := 1) T.f_Script_init sc_Script_init rfl (fun _ _ _ _ _ _ _ us its hl hi => match us, its, hl, hi with | [_, _], [_], _, _ => ⟨_, rfl, rfl⟩) (fun _ _ _ _ _ _ _ us its hl hi => match us, its, hl, hi with | [_], [_], _, _ => ⟨_, rfl, rfl⟩) (fun ds fs r => ?_) fun cdv A outer s H0 E hr => ?_
  · obtain ⟨ss, rfl | rfl, _⟩ := r <;> rfl
  · refine ⟨_, (pss_cons (ps_fld (pv 0) (pe_callTy call_tuple_of (by rfl) T.z_tuple (by decide +kernel) (pa_cons (pv 1) pa_nil)) rfl) (pss_one (ps_fld (pv 0) (pc G_form_of_steps (hr.mono (by decide)) T.g_form_of_steps (pa_cons (pe_fld (pv 0) rfl) pa_nil)) rfl))), ?_⟩
    rintro x dx ws ds fs I s1 nx hx a ⟨ss, hds, hn, rfl⟩
    have key : ∀ v, ws = [v] → EvD K (tCB (fun xs H Q => ∃ a ys, xs = [.ref a] ∧ ((SqL K H a ys ∧ ∀ l, H l = none → Q (.ref l) (upd H l (.tup ys))) ∨ (SqT K H a ys ∧ Q (.ref a) H))) (tCons (tVar 1) tNil)) (L2.start N_Script_init [.ref x, v]) I H0 (.tup (ss.map stepD)) := by
      rintro v rfl
      rcases hds with rfl | rfl
      · obtain ⟨v, e, av⟩ := a.one
        cases e
        exact ed_cb (ea_cons (ed_var rfl av) ea_nil) rc_tupL
      · obtain ⟨v, e, av⟩ := a.one
        cases e
        exact ed_cb (ea_cons (ed_var rfl av) ea_nil) rc_tupT
    obtain ⟨v, rfl⟩ : ∃ v, ws = [v] := by
      rcases hds with rfl | rfl
      · obtain ⟨v, e, _⟩ := a.one
        exact ⟨v, e⟩
      · obtain ⟨v, e, _⟩ := a.one
        exact ⟨v, e⟩
    refine fun Dn q => sq_fld (K := K) rfl hx nx T.c_Script T.n_own_steps (by decide) (key v rfl) s1 fun v1 I1 H1 g1 a1 h1 n1 => ?_
    have m1 : Gr [x] I H0 I1 (upd H1 x (.ins 756 dx (putF "own_steps" v1 []))) := g1.any.mutM (by simp) n1
    refine sx_fld (K := K) rfl upd_same n1 T.c_Script T.n_own_form (show 1 < 1000 by decide) (ed_call (ea_cons (ed_fldX (v := v1) rfl upd_same n1 T.c_Script T.n_own_steps rfl a1) ea_nil) ⟨ss, rfl, hn, rfl⟩) m1.sub fun v2 I2 H2 g2 a2 h2 n2 => ?_
    exact q _ I2 _ [("own_steps", v1), ("own_form", v2)] ((m1.trans g2.any fun m hm _ => by rw [List.mem_singleton.mp hm]; exact ⟨_, upd_same⟩).mutM (by simp) n2) n2 upd_same (.cons (a1.gr g2) (.cons a2 .nil))
abbrev N_Script_steps : List Str := ["self"]
theorem sc_Script_steps : FnScope N_Script_steps ["self"] (defScope s_Script_steps) := ⟨rfl, rfl, rfl, by decide +kernel, rfl, by decide +kernel, by decide +kernel⟩
def R_Script_steps : List D → D → Prop := fun ds d => ∃ ss, ds = [scriptD ss] ∧ d = .tup (ss.map stepD)
theorem ok_Script_steps (T : Txt K mg) : Kn P w K mg base 1 625 ["self"] (pureSp K R_Script_steps) := by
  refine Kn.pure T.f_Script_steps sc_Script_steps (fun _ _ _ _ _ _ us hl => match us, hl with | [_], _ => rfl) (fun ds d r => ?_) fun cdv A outer s H0 E hr => ?_
  · obtain ⟨f, rfl, _⟩ := r
    rfl
  · refine ⟨_, (pss_one (ps_ret (pe_fld (pv 0) rfl))), ?_⟩
    rintro vs ds d I s1 a ⟨s, rfl, rfl⟩
    obtain ⟨v, rfl, av⟩ := a.one
    exact rt_ret (ed_fld (ed_var rfl av) T.c_Script T.n_own_steps rfl) s1
abbrev N_Script_form : List Str := ["self"]
theorem sc_Script_form : FnScope N_Script_form ["self"] (defScope s_Script_form) := ⟨rfl, rfl, rfl, by decide +kernel, rfl, by decide +kernel, by decide +kernel⟩
def R_Script_form : List D → D → Prop := fun ds d => ∃ ss, ds = [scriptD ss] ∧ d = encF (formOf ss)
theorem ok_Script_form (T : Txt K mg) : Kn P w K mg base 1 639 ["self"] (pureSp K R_Script_form) := by
  refine Kn.pure T.f_Script_form sc_Script_form (fun _ _ _ _ _ _ us hl => match us, hl with | [_], _ => rfl) (fun ds d r => ?_) fun cdv A outer s H0 E hr => ?_
  · obtain ⟨f, rfl, _⟩ := r
    rfl
  · refine ⟨_, (pss_one (ps_ret (pe_fld (pv 0) rfl))), ?_⟩
    rintro vs ds d I s1 a ⟨s, rfl, rfl⟩
    obtain ⟨v, rfl, av⟩ := a.one
    exact rt_ret (ed_fld (ed_var rfl av) T.c_Script T.n_own_form rfl) s1
abbrev N_Script_within : List Str := ["self", "other"]
theorem sc_Script_within : FnScope N_Script_within ["self", "other"] (defScope s_Script_within) := ⟨rfl, rfl, rfl, by decide +kernel, rfl, by decide +kernel, by decide +kernel⟩
def R_Script_within : List D → D → Prop := fun ds d => ∃ a b, ds = [scriptD a, scriptD b] ∧ a.length + b.length < 20 ∧ d = .bl (isWithin (formOf a) (formOf b))
theorem ok_Script_within (T : Txt K mg) (G_is_within : Kn P w K mg base 2 451 ["one", "other"] (pureSp K R_is_within)) (G_Script_form : Kn P w K mg base 1 639 ["self"] (pureSp K R_Script_form)) : Kn P w K mg base 3 678 ["self", "other"] (pureSp K R_Script_within) := by
  refine Kn.pure T.f_Script_within sc_Script_within (fun _ _ _ _ _ _ us hl => match us, hl with | [_, _], _ => rfl) (fun ds d r => ?_) fun cdv A outer s H0 E hr => ?_
  · obtain ⟨f, g, rfl, _⟩ := r
    rfl
  · refine ⟨_, (pss_one (ps_ret (pc G_is_within (hr.mono (by decide)) T.g_is_within (pa_cons (pe_fld (pv 0) rfl) (pa_cons (pp (pv 1) T.c_Script T.p_Script_form G_Script_form (hr.mono (by decide))) pa_nil))))), ?_⟩
    rintro vs ds d I s1 a ⟨f, g, rfl, hz, rfl⟩
    obtain ⟨v, u, rfl, av, au⟩ := a.two
    refine rt_ret (ed_call (ea_cons (ed_fld (ed_var rfl av) T.c_Script T.n_own_form rfl) (ea_cons (ed_prop (ed_var rfl au) ⟨g, rfl, rfl⟩) ea_nil)) ⟨_, _, rfl, ?_, rfl⟩) s1
    have h1 := formOf_take_length f
    have h2 := formOf_take_length g
    omega
abbrev N_Script_rshift : List Str := ["self", "other"]
theorem sc_Script_rshift : FnScope N_Script_rshift ["self", "other"] (defScope s_Script_rshift) := ⟨rfl, rfl, rfl, by decide +kernel, rfl, by decide +kernel, by decide +kernel⟩
def R_Script_rshift : List D → D → Prop := fun ds d => ∃ a b, ds = [scriptD a, scriptD b] ∧ a.length + b.length < 900 ∧ d = scriptD (a ++ b)
theorem ok_Script_rshift (T : Txt K mg) (G_Script_init : KnD P w K mg base 5 610 ["self", "steps"] (.ref 602) (initSp K 756 R_Script_init)) (G_Script_steps : Kn P w K mg base 1 625 ["self"] (pureSp K R_Script_steps)) : Kn P w K mg base 7 725 ["self", "other"] (pureSp K R_Script_rshift) := by
  refine Kn.pure T.f_Script_rshift sc_Script_rshift (fun _ _ _ _ _ _ us hl => match us, hl with | [_, _], _ => rfl) (fun ds d r => ?_) fun cdv A outer s H0 E hr => ?_
  · obtain ⟨f, g, rfl, _⟩ := r
    rfl
  · refine ⟨_, (pss_cons (ps_if (pt_val (pe_callB call_isi (by rfl) T.z_isinstance (by decide +kernel) (pa_cons (pv 1) (pa_cons (pe_glob (v := .ref 538) rfl T.g_Step rfl) pa_nil)))) (pss_one ps_never) pss_nil) (pss_cons (ps_if (pt_not (pt_val (pe_callB call_isi (by rfl) T.z_isinstance (by decide +kernel) (pa_cons (pv 1) (pa_cons (pe_glob (v := .ref 756) rfl T.g_Script rfl) pa_nil))))) (pss_one ps_never) pss_nil) (pss_one (ps_ret (pmk T.k_Script G_Script_init.kn (hr.mono (by decide)) T.g_Script (pa_cons (pe_op op_catA (pe_fld (pv 0) rfl) (pp (pv 1) T.c_Script T.p_Script_steps G_Script_steps (hr.mono (by decide)))) pa_nil)))))), ?_⟩
    rintro vs ds d I s1 a ⟨f, g, rfl, hz, rfl⟩
    obtain ⟨v, u, rfl, av, au⟩ := a.two
    refine fun Dn q => sq_ifN (eb_test (K := K) (ed_cb (ea_cons (ed_var rfl au) (ea_cons ed_val ea_nil)) (rc_isi (a := 0) T.odd3.1 fun H x dx gs e => T.tyOf 1 rfl T.c_Script e))) s1 fun I1 H1 g1 => ?_
    refine sq_ifN (eb_not (a := true) (eb_test (K := K) (ed_cb (ea_cons (ed_var rfl (au.gr g1)) (ea_cons ed_val ea_nil)) (rc_isi (a := 0) rfl fun H x dx gs e => T.tyOf 1 rfl T.c_Script e)))) g1.sub fun I2 H2 g2 => ?_
    refine sx_ret (g1.tr g2) q (ed_make (ea_cons ((ed_op (ed_fld (ed_var rfl (av.gr (g1.tr g2))) T.c_Script T.n_own_steps rfl) (ed_prop (ed_var rfl (au.gr (g1.tr g2))) ⟨g, rfl, rfl⟩) (rd_catA ?_)).is (congrArg D.tup (List.map_append).symm)) ea_nil) ⟨f ++ g, .inr rfl, ?_, rfl⟩)
    · simp only [List.length_map]
      omega
    · rw [List.length_append]
      omega
end
end K98

/-! S7Brd: a board: an instance beside what is known, its list of past states beside it too. -/
namespace K98
open PySem PySem.Spec PyProof.Rows L2
/-- a dict of dicts, none of them locked -/
inductive AtB (K : PySem.W.Frag) (I : Hp) : List (Key × V) → List (Key × D) → Prop
  | nil : AtB K I [] []
  | cons {k : Key} {u : V} {kvs : List (Key × V)} {kd : List (Key × D)} {kds : List (Key × D)} : Dk K kd u I → AtB K I kvs kds → AtB K I ((k, u) :: kvs) ((k, .dic kd) :: kds)
theorem AtB.k {K : PySem.W.Frag} {I : Hp} : ∀ {kvs : List (Key × V)} {kds : List (Key × D)}, AtB K I kvs kds → AtK K I kvs kds
  | _, _, .nil => .nil
  | _, _, .cons h t => .cons h.at t.k
theorem AtB.gr {K : PySem.W.Frag} {M : List Addr} {I H I' H' : Hp} (g : Gr M I H I' H') : ∀ {kvs : List (Key × V)} {kds : List (Key × D)}, AtB K I kvs kds → AtB K I' kvs kds
  | _, _, .nil => .nil
  | _, _, .cons h t => .cons (h.gr g) (t.gr g)
theorem AtB.put {K : PySem.W.Frag} {I : Hp} {k : Key} {u : V} {kd : List (Key × D)} (h : Dk K kd u I) : ∀ {kvs : List (Key × V)} {kds : List (Key × D)}, AtB K I kvs kds → AtB K I (putK kvs k u) (putD kds k (.dic kd)) := by
  have rep : ∀ {kvs : List (Key × V)} {kds : List (Key × D)}, AtB K I kvs kds → AtB K I (kvs.map fun kv => if kv.1 = k then (kv.1, u) else kv) (kds.map fun kv => if kv.1 = k then (kv.1, .dic kd) else kv) := by
    intro kvs kds t
    induction t with
    | nil => exact .nil
    | @cons k' u' kvs' kd' kds' h' t' ih =>
      rw [List.map_cons, List.map_cons]
      by_cases c : k' = k
      · rw [if_pos c, if_pos c]
        exact .cons h ih
      · rw [if_neg c, if_neg c]
        exact .cons h' ih
  have app : ∀ {kvs : List (Key × V)} {kds : List (Key × D)}, AtB K I kvs kds → AtB K I (kvs ++ [(k, u)]) (kds ++ [(k, .dic kd)]) := by
    intro kvs kds t
    induction t with
    | nil => exact .cons h .nil
    | cons h' t' ih => exact .cons h' ih
  intro kvs kds t
  unfold putK putD
  rw [t.k.any k]
  split
  · exact rep t
  · exact app t
theorem AtB.val {K : PySem.W.Frag} {I : Hp} {k : Key} {kd : List (Key × D)} : ∀ {kvs : List (Key × V)} {kds : List (Key × D)}, AtB K I kvs kds → valD kds k = some (.dic kd) → ∃ u, valV kvs k = some u ∧ Dk K kd u I
  | _, _, .nil, e => nomatch e
  | _, _, .cons (k := k') (u := u) (kvs := kvs) (kd := kd') (kds := kds) h t, e => by
    by_cases c : k' = k
    · subst c
      have e1 : kd' = kd := by simpa [valD, List.find?_cons] using e
      subst e1
      exact ⟨u, by simp [valV, List.find?_cons], h⟩
    · have e1 : valD kds k = some (.dic kd) := by simpa [valD, List.find?_cons, c] using e
      obtain ⟨u', h1, h2⟩ := t.val e1
      exact ⟨u', by simpa [valV, List.find?_cons, c] using h1, h2⟩
def Bk (K : PySem.W.Frag) (kds : List (Key × D)) (v : V) (I : Hp) : Prop := ∃ a kvs, v = .ref a ∧ I a = some (.dK kvs) ∧ AtB K I kvs kds
theorem Bk.dk {K : PySem.W.Frag} {kds : List (Key × D)} {v : V} {I : Hp} (h : Bk K kds v I) : Dk K kds v I := by
  obtain ⟨a, kvs, rfl, h1, h2⟩ := h
  exact ⟨a, kvs, rfl, h1, h2.k⟩
theorem Bk.gr {K : PySem.W.Frag} {M : List Addr} {I H I' H' : Hp} {kds : List (Key × D)} {v : V} (h : Bk K kds v I) (g : Gr M I H I' H') : Bk K kds v I' := by
  obtain ⟨a, kvs, rfl, h1, h2⟩ := h
  exact ⟨a, kvs, rfl, g.ext _ _ h1, h2.gr g⟩
theorem Dk.bk0 {K : PySem.W.Frag} {v : V} {I : Hp} (h : Dk K [] v I) : Bk K [] v I := by
  obtain ⟨a, kvs, rfl, h1, h2⟩ := h
  cases h2
  exact ⟨a, [], rfl, h1, .nil⟩
structure Bd where
  book : List (Key × D)
  house : List (Bool × Int)
  reps : List (Str × List (Bool × Int))
  np : Nat
def repsD (r : List (Str × List (Bool × Int))) : List (Key × D) := r.map fun p => (.inr p.1, scriptD p.2)
def boardF (v1 v2 v3 v4 : V) (pl : Addr) : List (Str × V) := [("own_book", v1), ("own_house", v2), ("own_reports", v3), ("own_frames", v4), ("own_past", .ref pl)]
structure BoardAt (K : PySem.W.Frag) (b dx pl : Addr) (B : Bd) (I H : Hp) (v1 v2 v3 v4 : V) (ps : List V) : Prop where
  ne : b ≠ pl
  nb : I b = none
  npl : I pl = none
  hb : H b = some (.ins 1051 dx (boardF v1 v2 v3 v4 pl))
  hp : H pl = some (.lst ps)
  a1 : At K I v1 (.dic B.book)
  a2 : At K I v2 (scriptD B.house)
  a3 : At K I v3 (.dic (repsD B.reps))
  a4 : At K I v4 (.dic [])
  lp : ps.length ≤ B.np
/-- locked dicts may be among its attributes -/
def BrdL (K : PySem.W.Frag) (b pl : Addr) (B : Bd) (I H : Hp) : Prop := ∃ dx v1 v2 v3 v4 ps, BoardAt K b dx pl B I H v1 v2 v3 v4 ps
def Brd (K : PySem.W.Frag) (b pl : Addr) (B : Bd) (I H : Hp) : Prop := ∃ dx v1 v2 v3 v4 ps, BoardAt K b dx pl B I H v1 v2 v3 v4 ps ∧ Bk K B.book v1 I ∧ Dk K (repsD B.reps) v3 I
section
variable {K : PySem.W.Frag} {σ : L2.St} {I H I' H' : Hp} {ta tb te : TE} {d e : D} {b dx pl : Addr} {B B' : Bd} {v1 v2 v3 v4 : V} {ps : List V}
theorem BoardAt.gr (h : BoardAt K b dx pl B I H v1 v2 v3 v4 ps) (g : Gr [] I H I' H') : BoardAt K b dx pl B I' H' v1 v2 v3 v4 ps :=
  ⟨h.ne, g.out _ _ h.nb h.hb, g.out _ _ h.npl h.hp, g.keep _ _ h.nb h.hb (by simp), g.keep _ _ h.npl h.hp (by simp), h.a1.gr g, h.a2.gr g, h.a3.gr g, h.a4.gr g, h.lp⟩
theorem Brd.l (h : Brd K b pl B I H) : BrdL K b pl B I H := by
  obtain ⟨dx, v1, v2, v3, v4, ps, h, _⟩ := h
  exact ⟨dx, v1, v2, v3, v4, ps, h⟩
theorem Brd.gr (h : Brd K b pl B I H) (g : Gr [] I H I' H') : Brd K b pl B I' H' := by
  obtain ⟨dx, v1, v2, v3, v4, ps, h, h1, h3⟩ := h
  exact ⟨dx, v1, v2, v3, v4, ps, h.gr g, h1.gr g, h3.gr g⟩
theorem BrdL.gr (h : BrdL K b pl B I H) (g : Gr [] I H I' H') : BrdL K b pl B I' H' := by
  obtain ⟨dx, v1, v2, v3, v4, ps, h⟩ := h
  exact ⟨dx, v1, v2, v3, v4, ps, h.gr g⟩
theorem BrdL.lock {a : Addr} {kvs : List (Key × V)} {od : Obj} (h : BrdL K b pl B I H) (ha : I a = some (.dK kvs)) : BrdL K b pl B (upd I a (.frz od (.dK kvs))) (upd H a (.frz od (.dK kvs))) := by
  obtain ⟨dx, v1, v2, v3, v4, ps, h⟩ := h
  have n1 : b ≠ a := fun z => by
    have := h.nb
    rw [z, ha] at this
    cases this
  have n2 : pl ≠ a := fun z => by
    have := h.npl
    rw [z, ha] at this
    cases this
  exact ⟨dx, v1, v2, v3, v4, ps, h.ne, by rw [upd_ne n1]; exact h.nb, by rw [upd_ne n2]; exact h.npl, by rw [upd_ne n1]; exact h.hb, by rw [upd_ne n2]; exact h.hp, At.le (lock_le ha) _ h.a1, At.le (lock_le ha) _ h.a2, At.le (lock_le ha) _ h.a3, At.le (lock_le ha) _ h.a4, h.lp⟩
/-! ### attributes -/
theorem ed_reps {i : Nat} (T : NoAttr K 1051 "own_reports") (c : Cls K 1051) (hv : σ[i]? = some (some (.ref b))) (h : BrdL K b pl B I H) : EvD K (tFld K (tVar i) "own_reports") σ I H (.dic (repsD B.reps)) := by
  obtain ⟨dx, v1, v2, v3, v4, ps, h⟩ := h
  exact ed_fldX hv h.hb h.nb c T rfl h.a3
theorem ed_house {i : Nat} (T : NoAttr K 1051 "own_house") (c : Cls K 1051) (hv : σ[i]? = some (some (.ref b))) (h : BrdL K b pl B I H) : EvD K (tFld K (tVar i) "own_house") σ I H (scriptD B.house) := by
  obtain ⟨dx, v1, v2, v3, v4, ps, h⟩ := h
  exact ed_fldX hv h.hb h.nb c T rfl h.a2
theorem ed_book {i : Nat} (T : NoAttr K 1051 "own_book") (c : Cls K 1051) (hv : σ[i]? = some (some (.ref b))) (h : BrdL K b pl B I H) : EvD K (tFld K (tVar i) "own_book") σ I H (.dic B.book) := by
  obtain ⟨dx, v1, v2, v3, v4, ps, h⟩ := h
  exact ed_fldX hv h.hb h.nb c T rfl h.a1
theorem ed_frames {i : Nat} (T : NoAttr K 1051 "own_frames") (c : Cls K 1051) (hv : σ[i]? = some (some (.ref b))) (h : BrdL K b pl B I H) : EvD K (tFld K (tVar i) "own_frames") σ I H (.dic []) := by
  obtain ⟨dx, v1, v2, v3, v4, ps, h⟩ := h
  exact ed_fldX hv h.hb h.nb c T rfl h.a4
/-! ### promises of methods -/
def brdP (K : PySem.W.Frag) (R : Bd → List D → D → Prop) : Sp := fun vs H Q _ => ∃ I b pl B ws ds d, vs = .ref b :: ws ∧ Sub I H ∧ BrdL K b pl B I H ∧ AtL K I ws ds ∧ R B ds d ∧ ∀ v I' H', Gr [] I H I' H' → At K I' v d → Q v H'
def brdU (K : PySem.W.Frag) (R : Bd → List D → D → Prop) : Sp := fun vs H Q _ => ∃ I b pl B ws ds d, vs = .ref b :: ws ∧ Sub I H ∧ Brd K b pl B I H ∧ AtL K I ws ds ∧ R B ds d ∧ ∀ v I' H', Gr [] I H I' H' → At K I' v d → Q v H'
def brdM (K : PySem.W.Frag) (R : Bd → List D → Bd → Prop) : Sp := fun vs H Q _ => ∃ I b pl B ws ds B', vs = .ref b :: ws ∧ Sub I H ∧ Brd K b pl B I H ∧ AtL K I ws ds ∧ R B ds B' ∧ ∀ I' H', Gr [b, pl] I H I' H' → Brd K b pl B' I' H' → Q .non H'
def RetM (K : PySem.W.Frag) (b pl : Addr) (t : TS) (σ : L2.St) (I H : Hp) (B' : Bd) : Prop := ∀ Dn : Ends, (∀ σ' I' H', Gr [b, pl] I H I' H' → Brd K b pl B' I' H' → Dn.nx σ' H') → t Dn σ H
theorem Brd.two {J : Hp} (h : Brd K b pl B I H) : ∀ m ∈ [b, pl], J m = none → ∃ o, H m = some o := fun m hm _ => by
  obtain ⟨dx, v1, v2, v3, v4, ps, h, _⟩ := h
  rcases List.mem_cons.mp hm with e | hm
  · exact ⟨_, e ▸ h.hb⟩
  · rw [List.mem_singleton.mp hm]
    exact ⟨_, h.hp⟩
theorem ed_brdP {i : Nat} {m : Str} {t : TA} {ds : List D} {R : Bd → List D → D → Prop} (hv : σ[i]? = some (some (.ref b))) (h : BrdL K b pl B I H) (ha : EvA K t σ I H ds) (hr : R B ds d) (hn : ∀ v1 v2 v3 v4 pl, (boardF v1 v2 v3 v4 pl).lookup m = none := by intros; rfl) : EvD K (tMeth 1051 m (brdP K R) [] E0 (tVar i) t) σ I H d := fun I1 H1 g Q q => by
  obtain ⟨dx, v1, v2, v3, v4, ps, h0⟩ := h.gr g
  refine ⟨.ref b, hv, b, dx, _, rfl, h0.hb, hn _ _ _ _ _, ha I1 H1 g _ fun vs I2 H2 g2 as => ⟨I2, b, pl, B, vs, ds, d, by rw [List.append_nil], g2.sub, (h.gr g).gr g2, as, hr, fun v I3 H3 g3 a => q v I3 H3 (g2.tr g3) a⟩⟩
theorem ed_brdU {i : Nat} {m : Str} {t : TA} {ds : List D} {R : Bd → List D → D → Prop} (hv : σ[i]? = some (some (.ref b))) (h : Brd K b pl B I H) (ha : EvA K t σ I H ds) (hr : R B ds d) (hn : ∀ v1 v2 v3 v4 pl, (boardF v1 v2 v3 v4 pl).lookup m = none := by intros; rfl) : EvD K (tMeth 1051 m (brdU K R) [] E0 (tVar i) t) σ I H d := fun I1 H1 g Q q => by
  obtain ⟨dx, v1, v2, v3, v4, ps, h0, _⟩ := h.gr g
  refine ⟨.ref b, hv, b, dx, _, rfl, h0.hb, hn _ _ _ _ _, ha I1 H1 g _ fun vs I2 H2 g2 as => ⟨I2, b, pl, B, vs, ds, d, by rw [List.append_nil], g2.sub, (h.gr g).gr g2, as, hr, fun v I3 H3 g3 a => q v I3 H3 (g2.tr g3) a⟩⟩
/-- b.m(..), as a statement: the board changes -/
theorem sx_brdM {i : Nat} {m : Str} {t : TA} {ds : List D} {R : Bd → List D → Bd → Prop} {Dn : Ends} (hv : σ[i]? = some (some (.ref b))) (h : Brd K b pl B I H) (ha : EvA K t σ I H ds) (hr : R B ds B') (s : Sub I H) (k : ∀ I1 H1, Gr [b, pl] I H I1 H1 → Brd K b pl B' I1 H1 → Dn.nx σ H1)
    (hn : ∀ v1 v2 v3 v4 pl, (boardF v1 v2 v3 v4 pl).lookup m = none := by intros; rfl) : tDrop (tMeth 1051 m (brdM K R) [] E0 (tVar i) t) Dn σ H := by
  obtain ⟨dx, v1, v2, v3, v4, ps, h0, _⟩ := id h
  exact ⟨.ref b, hv, b, dx, _, rfl, h0.hb, hn _ _ _ _ _, ha I H (.refl s) _ fun vs I2 H2 g2 as => ⟨I2, b, pl, B, vs, ds, B', by rw [List.append_nil], g2.sub, h.gr g2, as, hr, fun I3 H3 g3 b3 => k I3 H3 (g2.any.trans g3 (h.gr g2).two) b3⟩⟩
theorem sq_brdM {i : Nat} {m : Str} {t : TA} {ds : List D} {R : Bd → List D → Bd → Prop} {u : TS} {Dn : Ends} (hv : σ[i]? = some (some (.ref b))) (h : Brd K b pl B I H) (ha : EvA K t σ I H ds) (hr : R B ds B') (s : Sub I H) (k : ∀ I1 H1, Gr [b, pl] I H I1 H1 → Brd K b pl B' I1 H1 → u Dn σ H1)
    (hn : ∀ v1 v2 v3 v4 pl, (boardF v1 v2 v3 v4 pl).lookup m = none := by intros; rfl) : tSeq (tDrop (tMeth 1051 m (brdM K R) [] E0 (tVar i) t)) u Dn σ H := sx_brdM (Dn := { Dn with nx := u Dn }) hv h ha hr s k hn
/-- b[k] = e by the board's own method -/
theorem sx_brdSet {i : Nat} {tk tv : TE} {dk dv : D} {R : Bd → List D → Bd → Prop} {Dn : Ends} (hv : σ[i]? = some (some (.ref b))) (h : Brd K b pl B I H) (h1 : EvD K tv σ I H dv) (h2 : EvD K tk σ I H dk) (hr : R B [dk, dv] B') (s : Sub I H) (k : ∀ I1 H1, Gr [b, pl] I H I1 H1 → Brd K b pl B' I1 H1 → Dn.nx σ H1) :
    tAsg tv (gSub (tVar i) tk (rOwnSet 1051 (brdM K R))) Dn σ H :=
  h1.run s fun v I1 H1 g1 a1 => ⟨.ref b, hv, h2 I1 H1 g1 _ fun y I2 H2 g2 a2 => by
    have g12 := g1.tr g2
    obtain ⟨dx, v1, v2, v3, v4, ps, h0, _⟩ := h.gr g12
    exact ⟨b, dx, _, rfl, h0.hb, I2, b, pl, B, _, _, B', rfl, g12.sub, h.gr g12, .cons a2 (.cons (a1.gr g2) .nil), hr, fun I3 H3 g3 b3 => k I3 H3 (g12.any.trans g3 (h.gr g12).two) b3⟩⟩
def brdN (K : PySem.W.Frag) (R : Bd → List D → Prop) : Sp := fun vs H Q _ => ∃ I b pl B ws ds, vs = .ref b :: ws ∧ Sub I H ∧ BrdL K b pl B I H ∧ AtL K I ws ds ∧ R B ds ∧ ∀ I' H', Gr [] I H I' H' → Q .non H'
def RetN (K : PySem.W.Frag) (t : TS) (σ : L2.St) (I H : Hp) : Prop := ∀ Dn : Ends, (∀ σ' I' H', Gr [] I H I' H' → Dn.nx σ' H') → t Dn σ H
theorem sq_brdN {i : Nat} {m : Str} {t : TA} {ds : List D} {R : Bd → List D → Prop} {u : TS} {Dn : Ends} (hv : σ[i]? = some (some (.ref b))) (h : BrdL K b pl B I H) (ha : EvA K t σ I H ds) (hr : R B ds) (s : Sub I H) (k : ∀ I1 H1, Gr [] I H I1 H1 → u Dn σ H1)
    (hn : ∀ v1 v2 v3 v4 pl, (boardF v1 v2 v3 v4 pl).lookup m = none := by intros; rfl) : tSeq (tDrop (tMeth 1051 m (brdN K R) [] E0 (tVar i) t)) u Dn σ H := by
  obtain ⟨dx, v1, v2, v3, v4, ps, h0⟩ := id h
  exact ⟨.ref b, hv, b, dx, _, rfl, h0.hb, hn _ _ _ _ _, ha I H (.refl s) _ fun vs I2 H2 g2 as => ⟨I2, b, pl, B, vs, ds, by rw [List.append_nil], g2.sub, h.gr g2, as, hr, fun I3 H3 g3 => k I3 H3 (g2.tr g3)⟩⟩
/-- the list of past states grows, or another stands -/
theorem BoardAt.past {ps' : List V} {n : Nat} (h : BoardAt K b dx pl B I H v1 v2 v3 v4 ps) (hl : ps'.length ≤ n) : BoardAt K b dx pl { B with np := n } I (upd H pl (.lst ps')) v1 v2 v3 v4 ps' :=
  ⟨h.ne, h.nb, h.npl, by rw [upd_ne h.ne]; exact h.hb, upd_same, h.a1, h.a2, h.a3, h.a4, hl⟩
theorem BoardAt.set3 {u : V} {r : List (Str × List (Bool × Int))} (h : BoardAt K b dx pl B I H v1 v2 v3 v4 ps) (a : At K I u (.dic (repsD r))) : BoardAt K b dx pl { B with reps := r } I (upd H b (.ins 1051 dx (boardF v1 v2 u v4 pl))) v1 v2 u v4 ps :=
  ⟨h.ne, h.nb, h.npl, upd_same, by rw [upd_ne (Ne.symm h.ne)]; exact h.hp, h.a1, h.a2, a, h.a4, h.lp⟩
theorem BoardAt.set2 {u : V} {r : List (Bool × Int)} (h : BoardAt K b dx pl B I H v1 v2 v3 v4 ps) (a : At K I u (scriptD r)) : BoardAt K b dx pl { B with house := r } I (upd H b (.ins 1051 dx (boardF v1 u v3 v4 pl))) v1 u v3 v4 ps :=
  ⟨h.ne, h.nb, h.npl, upd_same, by rw [upd_ne (Ne.symm h.ne)]; exact h.hp, h.a1, a, h.a3, h.a4, h.lp⟩
theorem BoardAt.set1 {u : V} {r : List (Key × D)} (h : BoardAt K b dx pl B I H v1 v2 v3 v4 ps) (a : At K I u (.dic r)) : BoardAt K b dx pl { B with book := r } I (upd H b (.ins 1051 dx (boardF u v2 v3 v4 pl))) u v2 v3 v4 ps :=
  ⟨h.ne, h.nb, h.npl, upd_same, by rw [upd_ne (Ne.symm h.ne)]; exact h.hp, a, h.a2, h.a3, h.a4, h.lp⟩
/-- b.f = e, with any word of the value -/
theorem sx_bfld {i : Nat} {f : Str} {Dn : Ends} {Pp : V → Hp → Prop} {fs : List (Str × V)} (hv : σ[i]? = some (some (.ref b))) (hb : H b = some (.ins 1051 dx fs)) (nb : I b = none) (c : Cls K 1051) (n : NoAttr K 1051 f) (hz : fs.length < 1000) (h : EvP te σ I H Pp) (s : Sub I H)
    (k : ∀ v I1 H1, Gr [] I H I1 H1 → Pp v I1 → Dn.nx σ (upd H1 b (.ins 1051 dx (putF f v fs)))) : sFld K (tVar i) te f Dn σ H :=
  h I H (.refl s) _ fun v I1 H1 g a => ⟨.ref b, hv, b, 1051, dx, _, rfl, g.keep b _ nb hb (by simp), c, n, hz, k v I1 H1 g a⟩
theorem EvD.p (h : EvD K te σ I H d) : EvP te σ I H (fun v I => At K I v d) := h
end
section
variable {X : Cx} {e : Expr}
/-- never reached -/
theorem pe_nv : PE X e (fun _ _ _ => False) := ⟨fun _ _ _ _ _ _ h => h.elim⟩
theorem pt_nv : PT X e (fun _ _ _ => False) := ⟨fun _ _ _ _ _ _ h => h.elim⟩
theorem hu_of {k : Nat} {A : Around} (r : Room k A) : A.units + 1 < cLine := by have := r.un; omega
end
section
variable {P : Program} {w : World} {K : PySem.W.Frag} {mg : Str → Option Value} {base : Heap}
theorem Kn.brdP {x qual : Str} {st : Stmt} {f : Addr} {N ps : List Str} {k : Nat} {R : Bd → List D → D → Prop} (F : ∃ fd, FunD K x qual (defArgs st) (defBody st) (defScope st) [] [] f fd) (S : FnScope N ps (defScope st))
    (hb : ∀ (kV doc pm : Value) (an : Option Addr) (cdv ct : Value) (us : List Value), us.length = ps.length → bindArgs (PySem.W.fnOf x qual (defArgs st) (defBody st) (defScope st) .none kV doc pm an cdv ct) ⟨us, []⟩ = Pure.pure (ps.zip us))
    (len : ∀ B ds d, R B ds d → ds.length + 1 = ps.length)
    (body : ∀ (cdv : Value) (A : Around) (outer : List Env) (s : Shared) (H0 : Hp) (E : XK), Room k (A.deeper (envOfC qual (defScope st) s.heap.objs.size f cdv)) →
      ∃ t, PSs (cxOf CX0 P w K mg base N qual (defScope st) f cdv A outer s H0 E).nox (defBody st) t ∧ ∀ b pl ws ds d I B, Sub I H0 → BrdL K b pl B I H0 → AtL K I ws ds → R B ds d → Ret K t (start N (.ref b :: ws)) I H0 d) : Kn P w K mg base (k + 1) f ps (brdP K R) := by
  refine Kn.of F S hb (fun vs H Q E h => ?_) fun cdv A outer s H vs Q E hr h => ?_
  · obtain ⟨I, b, pl, B, ws, ds, d, rfl, _, _, a, r, _⟩ := h
    rw [List.length_cons, a.length, len B ds d r]
  · obtain ⟨I, b, pl, B, ws, ds, d, rfl, s1, hB, a, r, q⟩ := h
    obtain ⟨t, h1, h2⟩ := body cdv A outer s H E hr
    exact ⟨t, h1, h2 b pl ws ds d I B s1 hB a r _ q⟩
theorem Kn.brdU {x qual : Str} {st : Stmt} {f : Addr} {N ps : List Str} {k : Nat} {R : Bd → List D → D → Prop} (F : ∃ fd, FunD K x qual (defArgs st) (defBody st) (defScope st) [] [] f fd) (S : FnScope N ps (defScope st))
    (hb : ∀ (kV doc pm : Value) (an : Option Addr) (cdv ct : Value) (us : List Value), us.length = ps.length → bindArgs (PySem.W.fnOf x qual (defArgs st) (defBody st) (defScope st) .none kV doc pm an cdv ct) ⟨us, []⟩ = Pure.pure (ps.zip us))
    (len : ∀ B ds d, R B ds d → ds.length + 1 = ps.length)
    (body : ∀ (cdv : Value) (A : Around) (outer : List Env) (s : Shared) (H0 : Hp) (E : XK), Room k (A.deeper (envOfC qual (defScope st) s.heap.objs.size f cdv)) →
      ∃ t, PSs (cxOf CX0 P w K mg base N qual (defScope st) f cdv A outer s H0 E).nox (defBody st) t ∧ ∀ b pl ws ds d I B, Sub I H0 → Brd K b pl B I H0 → AtL K I ws ds → R B ds d → Ret K t (start N (.ref b :: ws)) I H0 d) : Kn P w K mg base (k + 1) f ps (brdU K R) := by
  refine Kn.of F S hb (fun vs H Q E h => ?_) fun cdv A outer s H vs Q E hr h => ?_
  · obtain ⟨I, b, pl, B, ws, ds, d, rfl, _, _, a, r, _⟩ := h
    rw [List.length_cons, a.length, len B ds d r]
  · obtain ⟨I, b, pl, B, ws, ds, d, rfl, s1, hB, a, r, q⟩ := h
    obtain ⟨t, h1, h2⟩ := body cdv A outer s H E hr
    exact ⟨t, h1, h2 b pl ws ds d I B s1 hB a r _ q⟩
theorem Kn.brdM {x qual : Str} {st : Stmt} {f : Addr} {N ps : List Str} {k : Nat} {R : Bd → List D → Bd → Prop} (F : ∃ fd, FunD K x qual (defArgs st) (defBody st) (defScope st) [] [] f fd) (S : FnScope N ps (defScope st))
    (hb : ∀ (kV doc pm : Value) (an : Option Addr) (cdv ct : Value) (us : List Value), us.length = ps.length → bindArgs (PySem.W.fnOf x qual (defArgs st) (defBody st) (defScope st) .none kV doc pm an cdv ct) ⟨us, []⟩ = Pure.pure (ps.zip us))
    (len : ∀ B ds B', R B ds B' → ds.length + 1 = ps.length)
    (body : ∀ (cdv : Value) (A : Around) (outer : List Env) (s : Shared) (H0 : Hp) (E : XK), Room k (A.deeper (envOfC qual (defScope st) s.heap.objs.size f cdv)) →
      ∃ t, PSs (cxOf CX0 P w K mg base N qual (defScope st) f cdv A outer s H0 E).nox (defBody st) t ∧ ∀ b pl ws ds I B B', Sub I H0 → Brd K b pl B I H0 → AtL K I ws ds → R B ds B' → RetM K b pl t (start N (.ref b :: ws)) I H0 B') : Kn P w K mg base (k + 1) f ps (brdM K R) := by
  refine Kn.of F S hb (fun vs H Q E h => ?_) fun cdv A outer s H vs Q E hr h => ?_
  · obtain ⟨I, b, pl, B, ws, ds, B', rfl, _, _, a, r, _⟩ := h
    rw [List.length_cons, a.length, len B ds B' r]
  · obtain ⟨I, b, pl, B, ws, ds, B', rfl, s1, hB, a, r, q⟩ := h
    obtain ⟨t, h1, h2⟩ := body cdv A outer s H E hr
    exact ⟨t, h1, h2 b pl ws ds I B B' s1 hB a r _ fun _ => q⟩
theorem Kn.brdN {x qual : Str} {st : Stmt} {f : Addr} {N ps : List Str} {k : Nat} {R : Bd → List D → Prop} (F : ∃ fd, FunD K x qual (defArgs st) (defBody st) (defScope st) [] [] f fd) (S : FnScope N ps (defScope st))
    (hb : ∀ (kV doc pm : Value) (an : Option Addr) (cdv ct : Value) (us : List Value), us.length = ps.length → bindArgs (PySem.W.fnOf x qual (defArgs st) (defBody st) (defScope st) .none kV doc pm an cdv ct) ⟨us, []⟩ = Pure.pure (ps.zip us))
    (len : ∀ B ds, R B ds → ds.length + 1 = ps.length)
    (body : ∀ (cdv : Value) (A : Around) (outer : List Env) (s : Shared) (H0 : Hp) (E : XK), Room k (A.deeper (envOfC qual (defScope st) s.heap.objs.size f cdv)) →
      ∃ t, PSs (cxOf CX0 P w K mg base N qual (defScope st) f cdv A outer s H0 E).nox (defBody st) t ∧ ∀ b pl ws ds I B, Sub I H0 → BrdL K b pl B I H0 → AtL K I ws ds → R B ds → RetN K t (start N (.ref b :: ws)) I H0) : Kn P w K mg base (k + 1) f ps (brdN K R) := by
  refine Kn.of F S hb (fun vs H Q E h => ?_) fun cdv A outer s H vs Q E hr h => ?_
  · obtain ⟨I, b, pl, B, ws, ds, rfl, _, _, a, r, _⟩ := h
    rw [List.length_cons, a.length, len B ds r]
  · obtain ⟨I, b, pl, B, ws, ds, rfl, s1, hB, a, r, q⟩ := h
    obtain ⟨t, h1, h2⟩ := body cdv A outer s H E hr
    exact ⟨t, h1, h2 b pl ws ds I B s1 hB a r _ fun _ => q⟩
end
end K98

/-! S7a: the board's methods that the law's loop reaches. -/
namespace K98
open PySem PySem.Spec PyProof.Rows L2
def stD (B : Bd) : D := .tup [.dic B.book, scriptD B.house, .dic (repsD B.reps), .dic []]
def repOf (r : List (Str × List (Bool × Int))) (n : Str) : List (Bool × Int) := ((r.find? fun p => decide (p.1 = n)).map (·.2)).getD []
theorem repsD_keys (r : List (Str × List (Bool × Int))) : (repsD r).map (·.1) = (r.map (·.1)).map Sum.inr := by
  unfold repsD
  rw [List.map_map, List.map_map]
  rfl
theorem valD_reps : ∀ {r : List (Str × List (Bool × Int))} {n : Str}, n ∈ r.map (·.1) → valD (repsD r) (.inr n) = some (scriptD (repOf r n))
  | [], n, h => nomatch h
  | (m, ss) :: r, n, h => by
    by_cases c : m = n
    · subst c
      simp [valD, repsD, repOf, List.find?_cons]
    · have h2 : n ∈ r.map (·.1) := by
        rcases List.mem_cons.mp h with e | h
        · exact absurd e.symm c
        · exact h
      have ih := valD_reps h2
      have e1 : valD (repsD ((m, ss) :: r)) (.inr n) = valD (repsD r) (.inr n) := by
        have : ¬ (Sum.inr m : Key) = Sum.inr n := fun z => c (Sum.inr.inj z)
        simp [valD, repsD, List.find?_cons, c]
      have e2 : repOf ((m, ss) :: r) n = repOf r n := by simp [repOf, List.find?_cons, c]
      rw [e1, e2]
      exact ih
theorem nodup_inr {l : List Str} (h : l.Nodup) : (l.map (Sum.inr : Str → Key)).Nodup := by
  rw [List.nodup_iff_pairwise_ne, List.pairwise_map]
  exact (List.nodup_iff_pairwise_ne.mp h).imp fun h z => h (Sum.inr.inj z)
section
variable {P : Program} {w : World} {K : PySem.W.Frag} {mg : Str → Option Value} {base : Heap}
abbrev N_Board_state : List Str := ["self"]
theorem sc_Board_state : FnScope N_Board_state ["self"] (defScope s_Board_state) := ⟨rfl, rfl, rfl, by decide +kernel, rfl, by decide +kernel, by decide +kernel⟩
def R_Board_state : Bd → List D → D → Prop := fun B ds d => ds = [] ∧ d = stD B
theorem ok_Board_state (T : Txt K mg) : Kn P w K mg base 1 807 ["self"] (brdP K R_Board_state) := by
  refine Kn.brdP T.f_Board_state sc_Board_state (fun _ _ _ _ _ _ us hl => match us, hl with | [_], _ => rfl) (fun B ds d r => ?_) fun cdv A outer s H0 E hr => ?_
  · obtain ⟨rfl, _⟩ := r
    rfl
  · refine ⟨_, (pss_one (ps_ret (pe_tup (pa_cons (pe_fld (pv 0) rfl) (pa_cons (pe_fld (pv 0) rfl) (pa_cons (pe_fld (pv 0) rfl) (pa_cons (pe_fld (pv 0) rfl) pa_nil))))))), ?_⟩
    rintro b pl ws ds d I B s1 hB a ⟨rfl, rfl⟩
    cases a
    exact rt_ret (ed_tup (ea_cons (ed_book T.n_own_book T.c_Board rfl hB) (ea_cons (ed_house T.n_own_house T.c_Board rfl hB) (ea_cons (ed_reps T.n_own_reports T.c_Board rfl hB) (ea_cons (ed_frames T.n_own_frames T.c_Board rfl hB) ea_nil)))) (by simp)) s1
abbrev N_Board_keep : List Str := ["self"]
theorem sc_Board_keep : FnScope N_Board_keep ["self"] (defScope s_Board_keep) := ⟨rfl, rfl, rfl, by decide +kernel, rfl, by decide +kernel, by decide +kernel⟩
def R_Board_keep : Bd → List D → Bd → Prop := fun B ds B2 => ds = [] ∧ B.np < 90000 ∧ B2 = { B with np := B.np + 1 }
theorem ok_Board_keep (T : Txt K mg) (G_Board_state : Kn P w K mg base 1 807 ["self"] (brdP K R_Board_state)) : Kn P w K mg base 2 821 ["self"] (brdM K R_Board_keep) := by
  refine Kn.brdM T.f_Board_keep sc_Board_keep (fun _ _ _ _ _ _ us hl => match us, hl with | [_], _ => rfl) (fun B ds d r => ?_) fun cdv A outer s H0 E hr => ?_
  · obtain ⟨rfl, _⟩ := r
    rfl
  · refine ⟨_, (pss_one (ps_expr (pe_bm PySem.F.plainAttrs_list PySem.F.slot_list_append PySem.F.type_list_append mt_append (pe_fld (pv 0) rfl) (pa_cons (pm0 (pv 0) T.c_Board T.m_Board_state G_Board_state (hr.mono (by decide))) pa_nil)))), ?_⟩
    rintro b pl ws ds I B B2 s1 hB a ⟨rfl, hz, rfl⟩
    cases a
    obtain ⟨dx, v1, v2, v3, v4, ps, h, k1, k3⟩ := id hB
    refine fun Dn q => ⟨.ref b, rfl, b, 1051, dx, _, .ref pl, rfl, h.hb, T.c_Board, T.n_own_past, rfl, .inl ⟨rfl, ps, .of h.hp⟩, (ed_brdP (i := 0) rfl hB.l ea_nil ⟨rfl, rfl⟩).run s1 fun v I1 H1 g1 a1 => ?_⟩
    have h1 := h.gr g1
    refine ⟨pl, ps, v, rfl, rfl, h1.hp, Nat.lt_of_le_of_lt h.lp (Nat.lt_of_lt_of_le hz (by decide)), q _ I1 _ (g1.any.mutM (by simp) h1.npl) ⟨dx, v1, v2, v3, v4, ps ++ [v], h1.past ?_, k1.gr g1, k3.gr g1⟩⟩
    have := h.lp
    rw [List.length_append]
    simp only [List.length_cons, List.length_nil]
    omega
abbrev N_Board_check : List Str := ["self", "name"]
theorem sc_Board_check : FnScope N_Board_check ["self", "name"] (defScope s_Board_check) := ⟨rfl, rfl, rfl, by decide +kernel, rfl, by decide +kernel, by decide +kernel⟩
def R_Board_check : Bd → List D → Prop := fun B ds => ∃ n, ds = [.str n] ∧ n ∈ B.reps.map (·.1)
theorem ok_Board_check (T : Txt K mg) : Kn P w K mg base 1 828 ["self", "name"] (brdN K R_Board_check) := by
  refine Kn.brdN T.f_Board_check sc_Board_check (fun _ _ _ _ _ _ us hl => match us, hl with | [_, _], _ => rfl) (fun B ds r => ?_) fun cdv A outer s H0 E hr => ?_
  · obtain ⟨n, rfl, _⟩ := r
    rfl
  · refine ⟨_, (pss_one (ps_if (pt_cmp (pc_dnotin (hu_of hr) (pv 1) (pe_fld (pv 0) rfl))) (pss_one ps_never) pss_nil)), ?_⟩
    rintro b pl ws ds I B s1 hB a ⟨n, rfl, hn⟩
    obtain ⟨v, rfl, av⟩ := a.one
    refine fun Dn q => sx_if (b := false) ((eb_B (K := K) (ed_dnotin (ed_var rfl av) (ed_reps T.n_own_reports T.c_Board rfl hB))).is ?_) s1 (fun z => nomatch z) fun _ I1 H1 g1 => q _ I1 H1 g1
    rw [valD_reps hn]
    rfl
abbrev N_Board_setitem : List Str := ["self", "name", "script"]
theorem sc_Board_setitem : FnScope N_Board_setitem ["self", "name", "script"] (defScope s_Board_setitem) := ⟨rfl, rfl, rfl, by decide +kernel, rfl, by decide +kernel, by decide +kernel⟩
def R_Board_setitem : Bd → List D → Bd → Prop := fun B ds B2 => ∃ n ss, ds = [.str n, scriptD ss] ∧ (B.reps.map (·.1)).Nodup ∧ n ∉ B.reps.map (·.1) ∧ B.reps.length < 1000 ∧ B.np < 90000 ∧ B2 = { B with reps := B.reps ++ [(n, ss)], np := B.np + 1 }
theorem ok_Board_setitem (T : Txt K mg) (G_Board_keep : Kn P w K mg base 2 821 ["self"] (brdM K R_Board_keep)) : Kn P w K mg base 3 902 ["self", "name", "script"] (brdM K R_Board_setitem) := by
  refine Kn.brdM T.f_Board_setitem sc_Board_setitem (fun _ _ _ _ _ _ us hl => match us, hl with | [_, _, _], _ => rfl) (fun B ds d r => ?_) fun cdv A outer s H0 E hr => ?_
  · obtain ⟨n, ss, rfl, _⟩ := r
    rfl
  · refine ⟨_, (pss_cons (ps_if (PW.pt (pw_and (pt_cmp (pc_din (hu_of hr) (pv 1) (pe_fld (pv 0) rfl))) (pw_and1 pt_nv))) (pss_one ps_never) pss_nil) (pss_cons (ps_expr (pm0 (pv 0) T.c_Board T.m_Board_keep G_Board_keep (hr.mono (by decide)))) (pss_one (ps_fld (pv 0) (pe_merge1 (pe_fld (pv 0) rfl) (pv 1) (pv 2)) rfl)))), ?_⟩
    rintro b pl ws ds I B B2 s1 hB a ⟨n, ss, rfl, hnd, hn, hl, hp, rfl⟩
    obtain ⟨v, u, rfl, av, au⟩ := a.two
    refine fun Dn q => sq_ifN ((eb_and (a := false) (b := false) ((eb_B (K := K) (ed_din (ed_var rfl av) (ed_frames T.n_own_frames T.c_Board rfl hB.l))).is rfl) fun z => nomatch z).is rfl) s1 fun I1 H1 g1 => ?_
    have hB1 := hB.gr g1
    refine sq_brdM (i := 0) rfl hB1 ea_nil ⟨rfl, hp, rfl⟩ g1.sub fun I2 H2 g2 hB2 => ?_
    have g12 := g1.any.trans g2 hB1.two
    obtain ⟨dx, v1, v2, v3, v4, ps, h, k1, k3⟩ := id hB2
    refine sx_bfld (i := 0) rfl h.hb h.nb T.c_Board T.n_own_reports (show 5 < 1000 by decide) (ep_merge1 (ed_reps T.n_own_reports T.c_Board rfl hB2.l) ?_ ?_ (ed_var rfl (av.gr g12)) (ed_var rfl (au.gr g12))) g2.sub fun v I3 H3 g3 a3 => ?_
    · rw [repsD_keys]
      exact nodup_inr hnd
    · unfold repsD
      rw [List.length_map]
      show B.reps.length < 90000
      omega
    · have h3 := h.gr g3
      have e : putD (repsD B.reps) (.inr n) (scriptD ss) = repsD (B.reps ++ [(n, ss)]) := by
        rw [putD_new]
        · unfold repsD
          rw [List.map_append]
          rfl
        · rw [repsD_keys]
          intro z
          obtain ⟨m, hm, e⟩ := List.mem_map.mp z
          exact hn (Sum.inr.inj e ▸ hm)
      rw [e] at a3
      exact q _ I3 _ ((g12.trans g3.any hB2.two).mutM (by simp) h3.nb) ⟨dx, v1, v2, v, v4, ps, h3.set3 a3.at, k1.gr g3, a3⟩
abbrev N_Board_turn : List Str := ["self", "script"]
theorem sc_Board_turn : FnScope N_Board_turn ["self", "script"] (defScope s_Board_turn) := ⟨rfl, rfl, rfl, by decide +kernel, rfl, by decide +kernel, by decide +kernel⟩
def R_Board_turn : Bd → List D → Bd → Prop := fun B ds B2 => ∃ ss, ds = [scriptD ss] ∧ B.np < 90000 ∧ B2 = { B with house := ss, np := B.np + 1 }
theorem ok_Board_turn (T : Txt K mg) (G_Board_keep : Kn P w K mg base 2 821 ["self"] (brdM K R_Board_keep)) : Kn P w K mg base 3 999 ["self", "script"] (brdM K R_Board_turn) := by
  refine Kn.brdM T.f_Board_turn sc_Board_turn (fun _ _ _ _ _ _ us hl => match us, hl with | [_, _], _ => rfl) (fun B ds d r => ?_) fun cdv A outer s H0 E hr => ?_
  · obtain ⟨ss, rfl, _⟩ := r
    rfl
  · refine ⟨_, (pss_cons (ps_expr (pm0 (pv 0) T.c_Board T.m_Board_keep G_Board_keep (hr.mono (by decide)))) (pss_one (ps_fld (pv 0) (pv 1) rfl))), ?_⟩
    rintro b pl ws ds I B B2 s1 hB a ⟨ss, rfl, hp, rfl⟩
    obtain ⟨v, rfl, av⟩ := a.one
    refine fun Dn q => sq_brdM (i := 0) rfl hB ea_nil ⟨rfl, hp, rfl⟩ s1 fun I2 H2 g2 hB2 => ?_
    obtain ⟨dx, v1, v2, v3, v4, ps, h, k1, k3⟩ := id hB2
    refine sx_bfld (i := 0) rfl h.hb h.nb T.c_Board T.n_own_house (show 5 < 1000 by decide) (ed_var rfl (av.gr g2)).p g2.sub fun v I3 H3 g3 a3 => ?_
    have h3 := h.gr g3
    exact q _ I3 _ ((g2.trans g3.any hB2.two).mutM (by simp) h3.nb) ⟨dx, v1, v, v3, v4, ps, h3.set2 a3, k1.gr g3, k3.gr g3⟩
abbrev N_Board_whole : List Str := ["self", "name"]
theorem sc_Board_whole : FnScope N_Board_whole ["self", "name"] (defScope s_Board_whole) := ⟨rfl, rfl, rfl, by decide +kernel, rfl, by decide +kernel, by decide +kernel⟩
def R_Board_whole : Bd → List D → D → Prop := fun B ds d => ∃ n, ds = [.str n] ∧ n ∈ B.reps.map (·.1) ∧ B.house.length + (repOf B.reps n).length < 900 ∧ d = scriptD (B.house ++ repOf B.reps n)
theorem ok_Board_whole (T : Txt K mg) (G_Board_check : Kn P w K mg base 1 828 ["self", "name"] (brdN K R_Board_check)) (G_Script_rshift : Kn P w K mg base 7 725 ["self", "other"] (pureSp K R_Script_rshift)) : Kn P w K mg base 8 921 ["self", "name"] (brdP K R_Board_whole) := by
  refine Kn.brdP T.f_Board_whole sc_Board_whole (fun _ _ _ _ _ _ us hl => match us, hl with | [_, _], _ => rfl) (fun B ds d r => ?_) fun cdv A outer s H0 E hr => ?_
  · obtain ⟨n, rfl, _⟩ := r
    rfl
  · refine ⟨_, (pss_cons (ps_expr (pm (pv 0) T.c_Board T.m_Board_check G_Board_check (hr.mono (by decide)) (pa_cons (pv 1) pa_nil))) (pss_one (ps_ret (pe_op (op_ownOp (C := 756) T.m_Script_rshift.at_ T.m_Script_rshift.fn T.odd3.2.2 G_Script_rshift (hr.mono (by decide))) (pe_fld (pv 0) rfl) (pe_dget (hu_of hr) (pe_fld (pv 0) rfl) (pv 1) (fun _ _ => rfl)))))), ?_⟩
    rintro b pl ws ds d I B s1 hB a ⟨n, rfl, hn, hz, rfl⟩
    obtain ⟨v, rfl, av⟩ := a.one
    refine fun Dn q => sq_brdN (i := 0) rfl hB (ea_cons (ed_var rfl av) ea_nil) ⟨n, rfl, hn⟩ s1 fun I1 H1 g1 => ?_
    exact sx_ret g1 q (ed_op (ed_house T.n_own_house T.c_Board rfl (hB.gr g1)) (ed_dget (ed_reps T.n_own_reports T.c_Board rfl (hB.gr g1)) (ed_var rfl (av.gr g1)) (valD_reps hn)) (rd_ownOp ⟨_, _, rfl, hz, rfl⟩))
end
end K98

/-! S7b: a board made, its idle reports. -/
namespace K98
open PySem PySem.Spec PyProof.Rows L2
def wh (B : Bd) (n : Str) : List (Bool × Int) := B.house ++ repOf B.reps n
def inW (B : Bd) (a b : Str) : Bool := isWithin (formOf (wh B a)) (formOf (wh B b))
def ltS (a b : Str) : Bool := decide (a.cps.toList < b.cps.toList)
def namesOf (B : Bd) : List Str := B.reps.map (·.1)
def othersOf (B : Bd) (n : Str) : List Str := (namesOf B).filter fun o => (!decide (o = n)) && inW B n o
def idleB (B : Bd) (n : Str) : Bool := ((othersOf B n).map fun o => (!inW B o n) || ltS o n).any id
noncomputable def idleOf (B : Bd) : List Str := (sortS (namesOf B)).filter (idleB B)
structure BdOk (B : Bd) : Prop where
  nd : (namesOf B).Nodup
  len : (namesOf B).length < 60
  sz : ∀ n ∈ namesOf B, (wh B n).length < 10
def wholesD (B : Bd) : List (Key × D) := (namesOf B).map fun n => (.inr n, scriptD (wh B n))
theorem wholesD_val : ∀ (l : List Str) (f : Str → D) {n : Str}, n ∈ l → valD (l.map fun n => (.inr n, f n)) (.inr n) = some (f n)
  | [], f, n, h => nomatch h
  | m :: l, f, n, h => by
    by_cases c : m = n
    · subst c
      simp [valD, List.find?_cons]
    · have h2 : n ∈ l := by
        rcases List.mem_cons.mp h with e | h
        · exact absurd e.symm c
        · exact h
      have ih := wholesD_val l f h2
      have : ¬ (Sum.inr m : Key) = Sum.inr n := fun z => c (Sum.inr.inj z)
      have e1 : valD ((m :: l).map fun n => (.inr n, f n)) (.inr n) = valD (l.map fun n => (.inr n, f n)) (.inr n) := by
        simp [valD, List.find?_cons, c]
      rw [e1]
      exact ih
theorem wholesD_keys (B : Bd) : (wholesD B).map (·.1) = (namesOf B).map Sum.inr := by
  unfold wholesD
  rw [List.map_map]
  rfl
section
variable {K : PySem.W.Frag} {σ : L2.St} {I H I' H' : Hp} {ta tb te : TE} {d e : D}
theorem Gr.one {l : Addr} {o : HO} {I1 H1 : Hp} (g : Gr [l] I H I1 H1) (g2 : Gr [] I1 H1 I' H') (h : H1 l = some o) : Gr [l] I H I' H' := g.trans g2.any fun m hm _ => by
  rw [List.mem_singleton.mp hm]
  exact ⟨_, h⟩
theorem rd_ltS {a b : Str} : RvD K (fun x y H Q => ∃ i j, x = .str i ∧ y = .str j ∧ Q (.bl (decide (i.cps.toList < j.cps.toList))) H) (.str a) (.str b) (.bl (ltS a b)) := fun x y I H s hx hy Q q => by
  cases hx
  cases hy
  exact ⟨a, b, rfl, rfl, q _ I H (.refl s) (.bl _)⟩
/-- x, y = [], e -/
theorem sq_new2 {i j : Nat} {u : TS} {Dn : Ends} {Pp : V → Hp → Prop} (hm : ∀ v I H I' H', Pp v I → Gr [] I H I' H' → Pp v I') (h : EvP te σ I H Pp) (s : Sub I H)
    (k : ∀ l v I1 H1, H l = none → I1 l = none → H1 l = some (.lst []) → Gr [] I H I1 H1 → Pp v I1 → u Dn ((σ.set i (some (.ref l))).set j (some v)) H1) :
    tSeq (tAsg (tTup (tCons (tLst tNil) (tCons te tNil))) (gTup K 2 (gCons (gName i) (gCons (gName j) gNil)))) u Dn σ H :=
  ⟨Nat.zero_le _, fun l hl => h I _ (.side s hl) _ fun v I2 H2 g2 p2 => ⟨by show 2 ≤ _; decide, fun p hp => by
    have nl := sub_free s hl
    have g3 : Gr [] I2 H2 I2 (upd H2 p (.tup [.ref l, v])) := .side g2.sub hp
    have g23 := g2.tr g3
    exact ⟨p, _, rfl, .of upd_same, rfl, _, _, rfl, _, _, rfl, rfl, k l v I2 _ hl (g23.out l _ nl upd_same) (g23.keep l _ nl upd_same (by simp)) ((Gr.side s hl).tr g23) p2⟩⟩⟩
/-- x = [.. for .. in d ..], the dict d locked -/
theorem sq_lockLc {i : Nat} {u : TS} {Dn : Ends} {a : Addr} {kvs : List (Key × V)} (ha : I a = some (.dK kvs)) (s : Sub I H) (h : ∀ od, EvD K te σ (upd I a (.frz od (.dK kvs))) (upd H a (.frz od (.dK kvs))) d)
    (k : ∀ v I1 H1, Gr [] I H I1 H1 → At K I1 v d → u Dn (σ.set i (some v)) H1) : tSeq (tLock (tAsg te (gName i))) u Dn σ H :=
  ⟨a, .dK kvs, s _ _ ha, trivial, fun od => (h od).run (upd_sub s) fun v I2 H2 g2 a2 => by
    obtain ⟨gl, e1, e2⟩ := Gr.lock ha s g2
    exact ⟨e2, k v _ _ gl (At.le (unlock_le e1) d a2)⟩⟩
theorem ep_varFz {i : Nat} {a : Addr} {od : Obj} {kvs : List (Key × V)} {kds : List (Key × D)} (hv : σ[i]? = some (some (.ref a))) (h : I a = some (.frz od (.dK kvs))) (as : AtK K I kvs kds) : EvP (tVar i) σ I H (Fz K kds) := fun I1 H1 g Q q =>
  ⟨.ref a, hv, q _ I1 H1 (.refl g.sub) ⟨a, od, kvs, rfl, g.ext _ _ h, as.gr g⟩⟩
theorem ep_fldFz {i : Nat} {x C dx : Addr} {fs : List (Str × V)} {f : Str} {a : Addr} {od : Obj} {kvs : List (Key × V)} {kds : List (Key × D)} (hv : σ[i]? = some (some (.ref x))) (hx : H x = some (.ins C dx fs)) (nx : I x = none) (c : Cls K C) (n : NoAttr K C f) (l : fs.lookup f = some (.ref a)) (h : I a = some (.frz od (.dK kvs))) (as : AtK K I kvs kds) : EvP (tFld K (tVar i) f) σ I H (Fz K kds) := fun I1 H1 g Q q =>
  ⟨.ref x, hv, x, C, dx, fs, .ref a, rfl, g.keep x _ nx hx (by simp), c, n, l, q _ I1 H1 (.refl g.sub) ⟨a, od, kvs, rfl, g.ext _ _ h, as.gr g⟩⟩
end
section
variable {P : Program} {w : World} {K : PySem.W.Frag} {mg : Str → Option Value} {base : Heap}
abbrev N_Board_idle : List Str := ["self", "name", "found", "wholes", "others", "other"]
theorem sc_Board_idle : FnScope N_Board_idle ["self"] (defScope s_Board_idle) := ⟨rfl, rfl, rfl, by decide +kernel, rfl, by decide +kernel, by decide +kernel⟩
def R_Board_idle : Bd → List D → D → Prop := fun B ds d => ds = [] ∧ BdOk B ∧ d = .tup ((idleOf B).map D.str)
theorem ok_Board_idle (T : Txt K mg) (G_Board_whole : Kn P w K mg base 8 921 ["self", "name"] (brdP K R_Board_whole)) (G_Script_within : Kn P w K mg base 3 678 ["self", "other"] (pureSp K R_Script_within)) : Kn P w K mg base 9 964 ["self"] (brdU K R_Board_idle) := by
  refine Kn.brdU T.f_Board_idle sc_Board_idle (fun _ _ _ _ _ _ us hl => match us, hl with | [_], _ => rfl) (fun B ds d r => ?_) fun cdv A outer s H0 E hr => ?_
  · obtain ⟨rfl, _⟩ := r
    rfl
  · refine ⟨_, (pss_cons (ps_asg (pe_tup (pa_cons (pe_lst pa_nil) (pa_cons (pe_lock (pe_dc (own := [("name", 1)]) (g := (gName 1)) (tt := tYes) rfl sc_Board_idle.nd (pi_keys (pe_fld (pv 0) rfl)) (blkOk_by (N := N_Board_idle) (sc := defScope s_Board_idle) (by decide +kernel)) (fun _ _ _ _ _ => (pg_name (i := 1) sc_Board_idle.nd rfl (Or.inl rfl))) (fun _ _ _ _ _ => pts_nil) (fun _ _ _ _ _ => (pv 1)) (fun _ _ _ _ _ => (pm (pv 0) T.c_Board T.m_Board_whole G_Board_whole (hr.mono (by decide)) (pa_cons (pv 1) pa_nil))))) pa_nil))) (pg_tup rfl (pgs_cons (pg_name (i := 2) sc_Board_idle.nd rfl (Or.inl rfl)) (pgs_cons (pg_name (i := 3) sc_Board_idle.nd rfl (Or.inr rfl)) pgs_nil)))) (pss_cons (ps_for PassesOwn.never rfl (pi_list (pe_callB (call_sortedD rfl) (by rfl) T.z_sorted (by decide +kernel) (pa_cons (pv 3) pa_nil))) (pg_name (i := 1) sc_Board_idle.nd rfl (Or.inr rfl)) (pss_cons (ps_lock (ps_setLc (i := 4) (own := [("other", 5)]) (g := (gName 5)) rfl sc_Board_idle.nd rfl rfl (sw_true rfl rfl rfl (by decide +kernel)) (pi_keys (pv 3)) (blkOk_by (N := N_Board_idle) (sc := defScope s_Board_idle) (by decide +kernel)) (fun _ _ _ _ _ => (pg_name (i := 5) sc_Board_idle.nd rfl (Or.inl rfl))) (fun _ _ _ _ _ => (pts_one (PW.pt (pw_and (pt_cmpR op_ne (pv 5) (pv 1) (nomark _)) (pw_and1 (pt_val (pm (pe_dget (hu_of hr) (pv 3) (pv 1) (fun _ _ => rfl)) T.c_Script T.m_Script_within G_Script_within (hr.mono (by decide)) (pa_cons (pe_dget (hu_of hr) (pv 3) (pv 5) (fun _ _ => rfl)) pa_nil)))))))) (fun _ _ _ _ _ => (pv 5)))) (pss_one (ps_if (pt_val (pe_callB (cr_any rfl) (by rfl) T.z_any (by decide +kernel) (pa_cons (pe_lc (own := [("other", 5)]) (g := (gName 5)) (tt := tYes) rfl sc_Board_idle.nd (pi_list (pv 4)) (blkOk_by (N := N_Board_idle) (sc := defScope s_Board_idle) (by decide +kernel)) (fun _ _ _ _ _ => (pg_name (i := 5) sc_Board_idle.nd rfl (Or.inl rfl))) (fun _ _ _ _ _ => pts_nil) (fun _ _ _ _ _ => (pe_or (pe_not (pm (pe_dget (hu_of hr) (pv 3) (pv 5) (fun _ _ => rfl)) T.c_Script T.m_Script_within G_Script_within (hr.mono (by decide)) (pa_cons (pe_dget (hu_of hr) (pv 3) (pv 1) (fun _ _ => rfl)) pa_nil))) (pe_one (pe_cmpR op_lt_str (pv 5) (pv 1) (nomark _)))))) pa_nil))) (pss_one (ps_expr (pe_bm PySem.F.plainAttrs_list PySem.F.slot_list_append PySem.F.type_list_append mt_append (pv 2) (pa_cons (pv 1) pa_nil)))) pss_nil)))) (pss_one (ps_ret (pe_callTy call_tuple_of (by rfl) T.z_tuple (by decide +kernel) (pa_cons (pv 2) pa_nil)))))), ?_⟩
    rintro b pl ws ds d I B s1 hB a ⟨rfl, ok, rfl⟩
    cases a
    obtain ⟨dx, v1, v2, v3, v4, ps, h, k1, k3⟩ := id hB
    obtain ⟨a3, kv3, rfl, ha3, as3⟩ := k3
    refine fun Dn q => sq_new2 (K := K) (Pp := Dk K (wholesD B)) (fun v I H I' H' z g => z.gr g) (ep_lock ha3 fun od I1 H1 g1 => ?_) s1 fun l v I2 H2 hl nl2 hl2 g2 w2 => ?_
    · have hL := (hB.l.gr g1).lock (od := od) (g1.ext _ _ ha3)
      have h1 := h.gr g1
      have n1 : b ≠ a3 := fun z => by
        have := h1.nb
        rw [z, g1.ext _ _ ha3] at this
        cases this
      refine ep_dc (namesOf B) D.str id (fun n => scriptD (wh B n)) (fun n σ2 I => ∃ x, At K I x (.str n) ∧ σ2 = (wipe (L2.start N_Board_idle [.ref b]) [1]).set 1 (some x)) ((ei_keys (ep_fldFz (i := 0) rfl (by rw [upd_ne n1]; exact h1.hb) (by rw [upd_ne n1]; exact h1.nb) T.c_Board T.n_own_reports rfl upd_same (AtK.le (lock_le (g1.ext _ _ ha3)) _ (as3.gr g1)))).is ?_) (by have := ok.len; omega) ?_ (fun n => bd_name) ?_
      · unfold repsD namesOf
        rw [List.map_map, List.map_map]
        rfl
      · rw [List.map_id]
        exact ok.nd
      · rintro n hn σ2 I3 H3 g3 ⟨x, ax, rfl⟩
        refine ⟨rfl, ed_var rfl ax, ed_brdP (i := 0) rfl (hL.gr g3) (ea_cons (ed_var rfl ax) ea_nil) ⟨n, rfl, hn, ?_, rfl⟩⟩
        have := ok.sz n hn
        unfold wh at this
        rw [List.length_append] at this
        omega
    · obtain ⟨aw, kw, rfl, haw, asw⟩ := w2
      have wat : ∀ {I' H'}, Gr [l] I2 H2 I' H' → At K I' (.ref aw) (.dic (wholesD B)) := fun g => .dic (.inl (g.ext _ _ haw)) (asw.gr g)
      refine sq_for (K := K) (M := [l]) (sortS (namesOf B)) D.str (fun i σ1 I3 H3 => ∃ ys q1 q4 q5, Gr [l] I2 H2 I3 H3 ∧ Gr [] I H0 I3 H3 ∧ I3 l = none ∧ H3 l = some (.lst ys) ∧ AtL K I3 ys ((((sortS (namesOf B)).take i).filter (idleB B)).map D.str) ∧ σ1 = [some (.ref b), q1, some (.ref l), some (.ref aw), q4, q5])
        (ei_list (ed_cb (ea_cons (ed_var rfl (wat (.refl g2.sub))) ea_nil) (rc_sortedD (wholesD_keys B) (by have := ok.len; omega)))) g2.sub (fun I3 H3 g3 => ⟨[], _, _, _, g3.any, g2.tr g3, g3.out l _ nl2 hl2, g3.keep l _ nl2 hl2 (by simp), .nil, rfl⟩) ?_ ?_
      · rintro i n x σ1 I3 H3 hp ⟨ys, q1, q4, q5, g23, g3, n3, h3, a3', rfl⟩ I4 H4 g4 a4 N hN
        have hnm : n ∈ namesOf B := (sortS_perm _).mem_iff.mp (List.mem_of_getElem? hp)
        refine bd_name x I4 H4 g4.sub a4 _ ?_
        rintro σ2 ⟨x1, ax1, rfl⟩
        cases ax1
        have g24 := g23.one g4 h3
        have n4 := g4.out l _ n3 h3
        have h4 := g4.keep l _ n3 h3 (by simp)
        have nla : l ≠ aw := fun z => by
          rw [z, g24.ext _ _ haw] at n4
          cases n4
        have hz : ∀ m ∈ namesOf B, ∀ k ∈ namesOf B, (wh B m).length + (wh B k).length < 20 := fun m hm k hk => by
          have := ok.sz m hm
          have := ok.sz k hk
          omega
        refine sq_lockLc (K := K) (g24.ext _ _ haw) g4.sub (d := .lst ((othersOf B n).map D.str)) (fun od => ?_) fun v5 I5 H5 g5 a5 => ?_
        · have asL := AtK.le (lock_le (od := od) (g24.ext _ _ haw)) _ (asw.gr g24)
          have wL : ∀ {I' H'}, Gr [] (upd I4 aw (.frz od (.dK kw))) (upd H4 aw (.frz od (.dK kw))) I' H' → At K I' (.ref aw) (.dic (wholesD B)) := fun g => .dic (.inr ⟨od, g.ext _ _ upd_same⟩) (asL.gr g)
          refine ed_lcN (namesOf B) D.str (fun o => (!decide (o = n)) && inW B n o) D.str ((ei_keys (ep_varFz (i := 3) rfl upd_same asL)).is ?_) (by have := ok.len; omega) fun o ho y I5 H5 g5 ay => ?_
          · unfold wholesD
            rw [List.map_map]
            rfl
          · cases ay
            exact ⟨rfl, eb_and (eb_test (K := K) (ed_op (ed_var rfl (.str o)) (ed_var rfl (.str n)) rd_neS)) fun _ => eb_B (K := K) (ed_meth (ed_dget (ed_var rfl (wL g5)) (ed_var rfl (.str n)) (wholesD_val _ _ hnm)) rfl (ea_cons (ed_dget (ed_var rfl (wL g5)) (ed_var rfl (.str o)) (wholesD_val _ _ ho)) ea_nil) ⟨_, _, rfl, hz _ hnm _ ho, rfl⟩), fun _ => ed_var rfl (.str o)⟩
        · have n5 := g5.out l _ n4 h4
          have h5 := g5.keep l _ n4 h4 (by simp)
          have g25 := g24.one g5 h4
          have ho : ∀ o ∈ othersOf B n, o ∈ namesOf B := fun o h => (List.mem_filter.mp h).1
          have hlen : (othersOf B n).length ≤ (namesOf B).length := List.length_filter_le _ _
          refine sx_if (b := idleB B n) (eb_B (K := K) (ed_cb (ea_cons ((ed_lcNY (othersOf B n) D.str (fun o => .bl ((!inW B o n) || ltS o n)) (ei_list (ed_var rfl a5)) (by have := ok.len; omega) (fun _ => rfl) fun o hoo y I6 H6 g6 ay => ?_).is (congrArg D.lst (List.map_map (f := fun o => (!inW B o n) || ltS o n) (g := D.bl)).symm)) ea_nil) rc_any)) g5.sub (fun hb I6 H6 g6 => ?_) fun hb I6 H6 g6 => ?_
          · cases ay
            exact ed_orV (ed_notV (ed_meth (ed_dget (ed_var rfl (wat (g25.one g6 h5))) (ed_var rfl (.str o)) (wholesD_val _ _ (ho o hoo))) rfl (ea_cons (ed_dget (ed_var rfl (wat (g25.one g6 h5))) (ed_var rfl (.str n)) (wholesD_val _ _ hnm)) ea_nil) ⟨_, _, rfl, hz _ (ho o hoo) _ hnm, rfl⟩)) fun _ => ed_op (ed_var rfl (.str o)) (ed_var rfl (.str n)) rd_ltS
          · have n6 := g6.out l _ n5 h5
            have h6 := g6.keep l _ n5 h5 (by simp)
            refine sx_app (K := K) (xs := ys) rfl h6 n6 (ed_var rfl (.str n)) g6.sub ?_ fun v7 I7 H7 g7 a7 h7 n7 => ?_
            · rw [a3'.length, List.length_map]
              have e1 := List.length_filter_le (idleB B) ((sortS (namesOf B)).take i)
              have e2 : ((sortS (namesOf B)).take i).length ≤ (sortS (namesOf B)).length := by rw [List.length_take]; exact Nat.min_le_right _ _
              have e3 := (sortS_perm (namesOf B)).length_eq
              have := ok.len
              omega
            · have g37 := ((g4.tr g5).tr g6).tr g7
              have g47 := (g5.tr g6).tr g7
              refine hN _ I7 _ (g47.any.mutM (by simp) n7) ?_
              rw [take_succ hp, List.filter_append, List.map_append, List.filter_cons_of_pos hb]
              exact ⟨_, _, _, _, (g23.one g37 h3).mutM (by simp) n7, (g3.tr g37).mut hl n7, n7, upd_same, (a3'.gr g37).snoc a7, rfl⟩
          · have g36 := (g4.tr g5).tr g6
            have g46 := g5.tr g6
            refine hN _ I6 _ g46.any ?_
            rw [take_succ hp, List.filter_append, List.map_append, List.filter_cons_of_neg (by rw [hb]; decide)]
            refine ⟨_, _, _, _, g23.one g36 h3, g3.tr g36, g6.out l _ n5 h5, g6.keep l _ n5 h5 (by simp), ?_, rfl⟩
            show AtL K I6 ys (_ ++ [])
            rw [List.append_nil]
            exact a3'.gr g36
      · rintro σ1 I3 H3 s3 ⟨ys, q1, q4, q5, g23, g3, n3, h3, a3', rfl⟩
        rw [List.take_length] at a3'
        exact sx_rtup g3 hl rfl h3 n3 a3' q
end
end K98

/-! S7c: Board(). -/
namespace K98
open PySem PySem.Spec PyProof.Rows L2
abbrev Bd0 : Bd := ⟨[], [], [], 0⟩
def bInitSp (K : PySem.W.Frag) : Sp := fun vs H Q _ => ∃ I x dx, vs = [.ref x] ∧ Sub I H ∧ I x = none ∧ H x = some (.ins 1051 dx []) ∧ ∀ I' H' pl, Gr [x] I H I' H' → H pl = none → Brd K x pl Bd0 I' H' → Q .non H'
section
variable {K : PySem.W.Frag} {σ : L2.St} {I H I' H' : Hp} {ta tb te : TE} {d e : D}
/-- x.f1, x.f2 = a, b, with any word of a -/
theorem sq_fld2P {i : Nat} {x C dx : Addr} {fs : List (Str × V)} {f1 f2 : Str} {Dn : Ends} {u : TS} {Pp : V → Hp → Prop} (hm : ∀ v I H I' H', Pp v I → Gr [] I H I' H' → Pp v I') (hv : σ[i]? = some (some (.ref x))) (hx : H x = some (.ins C dx fs)) (nx : I x = none) (c : Cls K C) (n1 : NoAttr K C f1) (n2 : NoAttr K C f2) (hz : fs.length < 900) (h1 : EvP ta σ I H Pp) (h2 : EvD K tb σ I H e) (s : Sub I H)
    (k : ∀ v w I1 H1, Gr [x] I H I1 H1 → Pp v I1 → At K I1 w e → I1 x = none → H1 x = some (.ins C dx (putF f2 w (putF f1 v fs))) → u Dn σ H1) :
    tSeq (tAsg (tTup (tCons ta (tCons tb tNil))) (gTup K 2 (gCons (gFld K (tVar i) f1) (gCons (gFld K (tVar i) f2) gNil)))) u Dn σ H :=
  h1 I H (.refl s) _ fun v I1 H1 g1 a1 => h2 I1 H1 g1 _ fun w I2 H2 g2 a2 => by
    refine ⟨by show 2 ≤ _; decide, fun p hp => ?_⟩
    have g3 : Gr [] I2 H2 I2 (upd H2 p (.tup [v, w])) := .side g2.sub hp
    have g03 := (g1.tr g2).tr g3
    have hx2 := g03.keep x _ nx hx (by simp)
    have nx2 := g03.out x _ nx hx
    refine ⟨p, [v, w], rfl, .of upd_same, rfl, v, [w], rfl, .ref x, hv, x, C, dx, fs, rfl, hx2, c, n1, by omega, w, [], rfl, .ref x, hv, x, C, dx, putF f1 v fs, rfl, upd_same, c, n2, ?_, rfl, ?_⟩
    · have := putF_len f1 v fs
      omega
    · have g4 : Gr [x] I H I2 (upd (upd H2 p (.tup [v, w])) x (.ins C dx (putF f1 v fs))) := g03.any.mutM (by simp) nx2
      exact k v w _ _ (g4.mutM (by simp) nx2) (hm v _ _ _ _ a1 (g2.tr g3)) (a2.gr g3) nx2 upd_same
end
section
variable {P : Program} {w : World} {K : PySem.W.Frag} {mg : Str → Option Value} {base : Heap}
abbrev N_Board_init : List Str := ["self"]
theorem sc_Board_init : FnScope N_Board_init ["self"] (defScope s_Board_init) := ⟨rfl, rfl, rfl, by decide +kernel, rfl, by decide +kernel, by decide +kernel⟩
theorem ok_Board_init (T : Txt K mg) (G_Script_init : KnD P w K mg base 5 610 ["self", "steps"] (.ref 602) (initSp K 756 R_Script_init)) : Kn P w K mg base 7 793 ["self"] (bInitSp K) := by
  refine Kn.of T.f_Board_init sc_Board_init (fun _ _ _ _ _ _ us hl => match us, hl with | [_], _ => rfl) (fun vs H Q E h => ?_) fun cdv A outer s H0 vs Q E hr h => ?_
  · obtain ⟨I, x, dx, rfl, _⟩ := h
    rfl
  · refine ⟨_, ((pss_cons (ps_asg (pe_tup (pa_cons pe_dnewK (pa_cons (pmkD T.k_Script G_Script_init (hr.mono (by decide)) T.g_Script) pa_nil))) (pg_tup rfl (pgs_cons (pg_fld (pv 0)) (pgs_cons (pg_fld (pv 0)) pgs_nil)))) (pss_one (ps_asg (pe_tup (pa_cons pe_dnewK (pa_cons pe_dnewK (pa_cons (pe_lst pa_nil) pa_nil)))) (pg_tup rfl (pgs_cons (pg_fld (pv 0)) (pgs_cons (pg_fld (pv 0)) (pgs_cons (pg_fld (pv 0)) pgs_nil))))))) : PSs _ _ _).nox, ?_⟩
    obtain ⟨I, x, dx, rfl, s1, nx, hx, q⟩ := h
    refine sq_fld2P (K := K) (Pp := Dk K []) (i := 0) (fun v I H I' H' z g => z.gr g) rfl hx nx T.c_Board T.n_own_book T.n_own_house (show 0 < 900 by decide) ep_dnew (ed_makeD (E602_at T) ⟨[], .inr rfl, by decide, rfl⟩) s1 fun v1 v2 I1 H1 g1 a1 a2 n1 h1 => ?_
    intro p3 hp3 p4 hp4
    have gA : Gr [] I1 H1 (upd I1 p3 (.dK [])) (upd H1 p3 (.dK [])) := .new g1.sub hp3
    have gB : Gr [] I1 H1 (upd (upd I1 p3 (.dK [])) p4 (.dK [])) (upd (upd H1 p3 (.dK [])) p4 (.dK [])) := gA.tr (.new gA.sub hp4)
    refine ⟨Nat.zero_le _, fun pl hpl => ⟨by show 3 ≤ _; decide, fun pt hpt => ?_⟩⟩
    have gC := gB.tr (.side (o := .lst []) gB.sub hpl)
    have npl := sub_free gB.sub hpl
    have gE := gC.tr (.side (o := .tup [.ref p3, .ref p4, .ref pl]) gC.sub hpt)
    have nptl : pl ≠ pt := fun z => by
      rw [← z, upd_same] at hpt
      cases hpt
    have hx3 := gE.keep x _ n1 h1 (by simp)
    have nx3 := gE.out x _ n1 h1
    have hpl0 : H1 pl = none := gB.back hpl
    have nxp : x ≠ pl := fun z => by
      rw [← z, h1] at hpl0
      cases hpl0
    have hp4a : p3 ≠ p4 := fun z => by
      rw [← z, upd_same] at hp4
      cases hp4
    refine ⟨pt, _, rfl, .of upd_same, rfl, _, _, rfl, .ref x, rfl, x, 1051, dx, _, rfl, hx3, T.c_Board, T.n_own_reports, show 2 < 1000 by decide, _, _, rfl, .ref x, rfl, x, 1051, dx, _, rfl, upd_same, T.c_Board, T.n_own_frames, show 3 < 1000 by decide, _, _, rfl, .ref x, rfl, x, 1051, dx, _, rfl, upd_same, T.c_Board, T.n_own_past, show 4 < 1000 by decide, rfl, ?_⟩
    have gF := ((((g1.trans gE.any fun m hm _ => by rw [List.mem_singleton.mp hm]; exact ⟨_, h1⟩).mutM (p := x) (o := .ins 1051 dx [("own_book", v1), ("own_house", v2), ("own_reports", .ref p3)]) (by simp) nx3).mutM (p := x) (o := .ins 1051 dx [("own_book", v1), ("own_house", v2), ("own_reports", .ref p3), ("own_frames", .ref p4)]) (by simp) nx3)).mutM (p := x) (o := .ins 1051 dx (boardF v1 v2 (.ref p3) (.ref p4) pl)) (by simp) nx3
    have hplH : H0 pl = none := by
      cases q1 : H0 pl with
      | none => rfl
      | some o =>
        exfalso
        cases q2 : I pl with
        | some u =>
          have := g1.sub _ _ (g1.ext _ _ q2)
          rw [hpl0] at this
          cases this
        | none =>
          have := g1.keep _ _ q2 q1 (by simpa using Ne.symm nxp)
          rw [hpl0] at this
          cases this
    have e3 : upd (upd I1 p3 (.dK [])) p4 (.dK []) p3 = some (.dK []) := by rw [upd_ne hp4a, upd_same]
    refine q _ _ pl gF hplH ⟨dx, v1, v2, .ref p3, .ref p4, [], ⟨nxp, nx3, npl, upd_same, ?_, (a1.gr gE).at, a2.gr gE, .dic (.inl e3) .nil, .dic (.inl upd_same) .nil, Nat.zero_le _⟩, (a1.gr gE).bk0, ⟨p3, [], rfl, e3, .nil⟩⟩
    rw [upd_ne (Ne.symm nxp), upd_ne (Ne.symm nxp), upd_ne (Ne.symm nxp), upd_ne nptl, upd_same]
end
end K98

/-! S8a: the law's helpers. -/
namespace K98
open PySem PySem.Spec PyProof.Rows L2
/-- the urn: a list of three numbers beside what is known, at most m draws so far -/
def UrnAt (u : Addr) (m : Nat) (I H : Hp) : Prop := I u = none ∧ ∃ n0 n1 n2 : Int, H u = some (.lst [.int n0, .int n1, .int n2]) ∧ 0 ≤ n2 ∧ n2 ≤ m
def takeSp (K : PySem.W.Frag) : Sp := fun vs H Q _ => ∃ I u m c, vs = [.ref u, .int c] ∧ Sub I H ∧ UrnAt u m I H ∧ m < 1000000 ∧ 1 ≤ c ∧ c < 1000 ∧ ∀ r I' H', Gr [u] I H I' H' → UrnAt u (m + 1) I' H' → 0 ≤ r → r < c → Q (.int r) H'
def strideD (s : Bool × Int) : D := .tup [.str (kd s.1), .int s.2]
def ofSp (K : PySem.W.Frag) : Sp := fun vs H Q _ => ∃ I u m x, vs = [.ref u, x] ∧ Sub I H ∧ UrnAt u m I H ∧ m < 1000000 ∧ At K I x (.lst [.str (kd true), .str (kd false)]) ∧ ∀ t I' H', Gr [u] I H I' H' → UrnAt u (m + 1) I' H' → Q (.str (kd t)) H'
def strideSp (K : PySem.W.Frag) : Sp := fun vs H Q _ => ∃ I u m c, vs = [.ref u, .int c] ∧ Sub I H ∧ UrnAt u m I H ∧ m < 900000 ∧ 1 ≤ c ∧ c < 1000 ∧ ∀ v s I' H', Gr [u] I H I' H' → UrnAt u (m + 2) I' H' → At K I' v (strideD s) → 1 ≤ s.2 → s.2 ≤ c → Q v H'
def lineSp (K : PySem.W.Frag) : Sp := fun vs H Q _ => ∃ I u m, vs = [.ref u, .int 2, .int 7] ∧ Sub I H ∧ UrnAt u m I H ∧ m < 800000 ∧ ∀ v ss I' H', Gr [u] I H I' H' → UrnAt u (m + 9) I' H' → At K I' v (.tup (ss.map strideD)) → ss.length ≤ 2 → Small ss → Q v H'
section
variable {K : PySem.W.Frag} {σ : L2.St} {I H I' H' : Hp} {ta tb te : TE} {d e : D}
/-- xs[k], the list beside what is known -/
theorem ed_ixX {i : Nat} {u : Addr} {xs : List V} {k : Int} {v : V} (hv : σ[i]? = some (some (.ref u))) (hu : H u = some (.lst xs)) (nu : I u = none) (hk : EvD K tb σ I H (.int k)) (h : atI xs k = some v) (a : At K I v d) : EvD K (tOp (rIxL K) (tVar i) tb) σ I H d := fun I1 H1 g Q q =>
  ⟨.ref u, hv, hk I1 H1 g _ fun y I2 H2 g2 a2 => by
    cases a2
    have g02 := g.tr g2
    exact ⟨u, xs, k, v, rfl, rfl, .of (g02.keep u _ nu hu (by simp)), h, q v I2 H2 g2 (a.gr g02)⟩⟩
/-- xs[k] = e, the list beside what is known -/
theorem sx_setX {i j : Nat} {u : Addr} {xs : List V} {k : Int} {Dn : Ends} (hv : σ[i]? = some (some (.ref u))) (hu : H u = some (.lst xs)) (nu : I u = none) (hk : EvD K tb σ I H (.int k)) (hj : ixN xs.length k = some j) (h : EvD K te σ I H d) (s : Sub I H)
    (kk : ∀ v I1 H1, Gr [] I H I1 H1 → At K I1 v d → H1 u = some (.lst xs) → I1 u = none → Dn.nx σ (upd H1 u (.lst (xs.set j v)))) : tAsg te (gSub (tVar i) tb L2.rSetL) Dn σ H :=
  h.run s fun v I1 H1 g1 a1 => ⟨.ref u, hv, hk I1 H1 g1 _ fun y I2 H2 g2 a2 => by
    cases a2
    have g02 := g1.tr g2
    exact ⟨u, xs, k, j, rfl, rfl, g02.keep u _ nu hu (by simp), hj, kk v I2 H2 g02 (a1.gr g2) (g02.keep u _ nu hu (by simp)) (g02.out u _ nu hu)⟩⟩
theorem sq_setX {i j : Nat} {u : Addr} {xs : List V} {k : Int} {Dn : Ends} {w : TS} (hv : σ[i]? = some (some (.ref u))) (hu : H u = some (.lst xs)) (nu : I u = none) (hk : EvD K tb σ I H (.int k)) (hj : ixN xs.length k = some j) (h : EvD K te σ I H d) (s : Sub I H)
    (kk : ∀ v I1 H1, Gr [] I H I1 H1 → At K I1 v d → H1 u = some (.lst xs) → I1 u = none → w Dn σ (upd H1 u (.lst (xs.set j v)))) : tSeq (tAsg te (gSub (tVar i) tb L2.rSetL)) w Dn σ H := sx_setX (Dn := { Dn with nx := w Dn }) hv hu nu hk hj h s kk
theorem EvA.run' {t : TA} {ds : List D} {Q : List V → Hp → Prop} (h : EvA K t σ I H ds) (s : Sub I H) (q : ∀ vs I2 H2, Gr [] I H I2 H2 → AtL K I2 vs ds → Q vs H2) : t σ H Q := h I H (.refl s) Q q
theorem tc_run {sp : Sp} {t : TA} {ds : List D} {Q : VK} (h : EvA K t σ I H ds) (s : Sub I H) (q : ∀ vs I2 H2, Gr [] I H I2 H2 → AtL K I2 vs ds → sp vs H2 Q E0) : tCall sp [] E0 t σ H Q := h I H (.refl s) _ fun vs I2 H2 g a => by
  show sp (vs ++ []) H2 Q E0
  rw [List.append_nil]
  exact q vs I2 H2 g a
theorem UrnAt.gr {u : Addr} {m : Nat} (h : UrnAt u m I H) (g : Gr [] I H I' H') : UrnAt u m I' H' := by
  obtain ⟨n, n0, n1, n2, h1, h2, h3⟩ := h
  exact ⟨g.out _ _ n h1, n0, n1, n2, g.keep _ _ n h1 (by simp), h2, h3⟩
theorem UrnAt.some {u : Addr} {m : Nat} (h : UrnAt u m I H) : ∃ o, H u = Option.some o := by
  obtain ⟨n, n0, n1, n2, h1, h2, h3⟩ := h
  exact ⟨_, h1⟩
theorem UrnAt.le {u : Addr} {m n : Nat} (h : UrnAt u m I H) (hl : m ≤ n) : UrnAt u n I H := by
  obtain ⟨n', n0, n1, n2, h1, h2, h3⟩ := h
  exact ⟨n', n0, n1, n2, h1, h2, by omega⟩
/-- a growth that changes u, and another one -/
theorem Gr.two {u : Addr} {I1 H1 : Hp} (g : Gr [u] I H I1 H1) (g2 : Gr [u] I1 H1 I' H') (h : ∃ o, H1 u = some o) : Gr [u] I H I' H' := g.trans g2 fun m hm _ => by
  rw [List.mem_singleton.mp hm]
  exact h
theorem Gr.onE {u : Addr} {I1 H1 : Hp} (g : Gr [u] I H I1 H1) (g2 : Gr [] I1 H1 I' H') (h : ∃ o, H1 u = some o) : Gr [u] I H I' H' := g.two g2.any h
end
section
variable {P : Program} {w : World} {K : PySem.W.Frag} {mg : Str → Option Value} {base : Heap}
abbrev N_law_take : List Str := ["_law_urn", "_law_low_so", "_law_drawn", "_law_once", "_law_far", "_law_twice"]
theorem sc_law_take : FnScope N_law_take ["_law_urn", "_law_low_so"] (defScope s_law_take) := ⟨rfl, rfl, rfl, by decide +kernel, rfl, by decide +kernel, by decide +kernel⟩
theorem ok_law_take (T : Txt K mg) : Kn P w K mg base 1 1069 ["_law_urn", "_law_low_so"] (takeSp K) := by
  refine Kn.of T.f_law_take sc_law_take (fun _ _ _ _ _ _ us hl => match us, hl with | [_, _], _ => rfl) (fun vs H Q E h => ?_) fun cdv A outer s H0 vs Q E hr h => ?_
  · obtain ⟨I, u, m, c, rfl, _⟩ := h
    rfl
  · refine ⟨_, ((pss_cons (ps_if (pt_cmpR op_gt (pe_ix ix_list (pv 0) pe_int (fun _ _ => rfl)) pe_int (nomark _)) (pss_cons (ps_set (i := 2) sc_law_take.nd rfl (Or.inl rfl) (pe_op op_mod (pe_callTy call_int1 (by rfl) T.z_int (by decide +kernel) (pa_cons (pe_ix ix_list (pv 0) pe_int (fun _ _ => rfl)) pa_nil)) (pv 1))) (pss_cons (ps_asg (pe_op op_fdiv (pe_ix ix_list (pv 0) pe_int (fun _ _ => rfl)) (pv 1)) (pg_sub (pv 0) pe_int set_list)) (pss_one (ps_ret (pv 2))))) pss_nil) (pss_cons (ps_asg (pe_op op_add (pe_ix ix_list (pv 0) pe_int (fun _ _ => rfl)) pe_int) (pg_sub (pv 0) pe_int set_list)) (pss_cons (ps_set (i := 3) sc_law_take.nd rfl (Or.inl rfl) (pe_op op_mod (pe_callTy call_int1 (by rfl) T.z_int (by decide +kernel) (pa_cons (pe_op op_mul (pe_op op_add (pe_ix ix_list (pv 0) pe_int (fun _ _ => rfl)) (pe_op op_mul pe_int (pe_ix ix_list (pv 0) pe_int (fun _ _ => rfl)))) (pe_op op_add pe_int (pe_ix ix_list (pv 0) pe_int (fun _ _ => rfl)))) pa_nil)) pe_int)) (pss_cons (ps_set (i := 4) sc_law_take.nd rfl (Or.inl rfl) (pe_op op_add (pe_op op_mod (pe_callTy call_int1 (by rfl) T.z_int (by decide +kernel) (pa_cons (pv 3) pa_nil)) pe_int) pe_int)) (pss_cons (ps_set (i := 5) sc_law_take.nd rfl (Or.inl rfl) (pe_op op_mod (pe_callTy call_int1 (by rfl) T.z_int (by decide +kernel) (pa_cons (pe_op op_mul (pe_op op_add (pe_op op_add (pv 3) (pe_ix ix_list (pv 0) pe_int (fun _ _ => rfl))) (pe_op op_fdiv (pe_ix ix_list (pv 0) pe_int (fun _ _ => rfl)) pe_int)) (pv 4)) pa_nil)) pe_int)) (pss_one (ps_ret (pe_op op_mod (pe_callTy call_int1 (by rfl) T.z_int (by decide +kernel) (pa_cons (pe_op op_fdiv (pe_op op_mod (pe_callTy call_int1 (by rfl) T.z_int (by decide +kernel) (pa_cons (pe_op op_add (pe_op op_mul (pv 5) pe_int) (pv 3)) pa_nil)) pe_int) pe_int) pa_nil)) (pv 1))))))))) : PSs _ _ _).nox, ?_⟩
    obtain ⟨I, u, m, c, rfl, s1, ⟨nu, n0, n1, n2, hu, h2a, h2b⟩, hm, hc1, hc2, q⟩ := h
    have x0 : ∀ {σ : L2.St} {I' H'}, σ[0]? = some (some (.ref u)) → ∀ {a b c : Int}, H' u = some (.lst [.int a, .int b, .int c]) → I' u = none → EvD K (tOp (rIxL K) (tVar 0) (tC (.int 0))) σ I' H' (.int a) := fun hv _ _ _ h n => ed_ixX hv h n ed_int rfl (.int _)
    have x1 : ∀ {σ : L2.St} {I' H'}, σ[0]? = some (some (.ref u)) → ∀ {a b c : Int}, H' u = some (.lst [.int a, .int b, .int c]) → I' u = none → EvD K (tOp (rIxL K) (tVar 0) (tC (.int 1))) σ I' H' (.int b) := fun hv _ _ _ h n => ed_ixX hv h n ed_int rfl (.int _)
    have x2 : ∀ {σ : L2.St} {I' H'}, σ[0]? = some (some (.ref u)) → ∀ {a b c : Int}, H' u = some (.lst [.int a, .int b, .int c]) → I' u = none → EvD K (tOp (rIxL K) (tVar 0) (tC (.int 2))) σ I' H' (.int c) := fun hv _ _ _ h n => ed_ixX hv h n ed_int rfl (.int _)
    refine sq_if (b := decide (n0 > 0)) (eb_test (K := K) (ed_op (x0 rfl hu nu) ed_int rd_B0)) s1 (fun _ I1 H1 g1 => ?_) fun _ I1 H1 g1 => ?_
    · have hu1 := g1.keep u _ nu hu (by simp)
      have nu1 := g1.out u _ nu hu
      refine sq_int (K := K) (ed_op (ed_cb (ea_cons (x0 rfl hu1 nu1) ea_nil) rc_int) (ed_var rfl (.int c)) (rd_I (show 0 < c by omega))) g1.sub fun I2 H2 g2 => ?_
      have hu2 := g2.keep u _ nu1 hu1 (by simp)
      have nu2 := g2.out u _ nu1 hu1
      refine sq_setX (K := K) (j := 0) (i := 0) rfl hu2 nu2 ed_int rfl (ed_op (x0 rfl hu2 nu2) (ed_var rfl (.int c)) (rd_I (show CDiv n0 c from ⟨by omega, by omega⟩))) g2.sub fun v I3 H3 g3 a3 hu3 nu3 => ?_
      cases a3
      have g13 := (g1.tr g2).tr g3
      exact ⟨_, rfl, q (n0 % c) I3 _ (g13.any.mutM (by simp) nu3) ⟨nu3, n0 / c, n1, n2, upd_same, h2a, by omega⟩ (Int.emod_nonneg _ (by omega)) (Int.emod_lt_of_pos _ (by omega))⟩
    · have hu1 := g1.keep u _ nu hu (by simp)
      have nu1 := g1.out u _ nu hu
      refine sq_setX (K := K) (j := 2) (i := 0) rfl hu1 nu1 ed_int rfl (ed_op (x2 rfl hu1 nu1) ed_int rd_I0) g1.sub fun v I2 H2 g2 a2 hu2 nu2 => ?_
      cases a2
      have gA : Gr [u] I H0 I2 (upd H2 u (.lst [.int n0, .int n1, .int (n2 + 1)])) := (g1.tr g2).any.mutM (by simp) nu2
      have hA : upd H2 u (.lst [.int n0, .int n1, .int (n2 + 1)]) u = some (.lst [.int n0, .int n1, .int (n2 + 1)]) := upd_same
      refine sq_int (K := K) (ed_op (ed_cb (ea_cons (ed_op (ed_op (x1 rfl hA nu2) (ed_op ed_int (x2 rfl hA nu2) (rd_I (.inl (by decide)))) rd_I0) (ed_op ed_int (x2 rfl hA nu2) rd_I0) (rd_I (.inr (by omega)))) ea_nil) rc_int) ed_int (rd_I (by decide))) gA.sub fun I3 H3 g3 => ?_
      have hu3 := g3.keep u _ nu2 hA (by simp)
      have nu3 := g3.out u _ nu2 hA
      generalize ((n1 + 48271 * (n2 + 1)) * (39373 + (n2 + 1))) % 2147483647 = z1
      refine sq_int (K := K) (ed_op (ed_op (ed_cb (ea_cons (ed_var rfl (.int z1)) ea_nil) rc_int) ed_int (rd_I (by decide))) ed_int rd_I0) g3.sub fun I4 H4 g4 => ?_
      have hu4 := g4.keep u _ nu3 hu3 (by simp)
      have nu4 := g4.out u _ nu3 hu3
      have hf1 : 0 ≤ z1 % 40009 := Int.emod_nonneg _ (by decide)
      have hf2 : z1 % 40009 < 40009 := Int.emod_lt_of_pos _ (by decide)
      generalize hz2 : z1 % 40009 + 7 = z2
      refine sq_int (K := K) (ed_op (ed_cb (ea_cons (ed_op (ed_op (ed_op (ed_var rfl (.int z1)) (x2 rfl hu4 nu4) rd_I0) (ed_op (x1 rfl hu4 nu4) ed_int (rd_I (show CDiv n1 1000003 from ⟨by decide, by decide⟩))) rd_I0) (ed_var rfl (.int z2)) (rd_I (.inr (by omega)))) ea_nil) rc_int) ed_int (rd_I (by decide))) g4.sub fun I5 H5 g5 => ?_
      have hu5 := g5.keep u _ nu4 hu4 (by simp)
      have nu5 := g5.out u _ nu4 hu4
      generalize ((z1 + (n2 + 1) + n1 / 1000003) * z2) % 2147483629 = z3
      refine EvD.run (K := K) (d := .int ((z3 * 48271 + z1) % 2147483587 / 64 % c)) (ed_op (ed_cb (ea_cons (ed_op (ed_op (ed_cb (ea_cons (ed_op (ed_op (ed_var rfl (.int z3)) ed_int (rd_I (.inr (by decide)))) (ed_var rfl (.int z1)) rd_I0) ea_nil) rc_int) ed_int (rd_I (by decide))) ed_int (rd_I (show CDiv _ 64 from ⟨by decide, by decide⟩))) ea_nil) rc_int) (ed_var rfl (.int c)) (rd_I (show 0 < c by omega))) g5.sub fun v I6 H6 g6 a6 => ?_
      cases a6
      have hu6 := g6.keep u _ nu5 hu5 (by simp)
      have nu6 := g6.out u _ nu5 hu5
      have g26 := ((g3.tr g4).tr g5).tr g6
      exact q _ I6 _ (gA.onE g26 ⟨_, hA⟩) ⟨nu6, n0, n1, n2 + 1, hu6, by omega, by omega⟩ (Int.emod_nonneg _ (by omega)) (Int.emod_lt_of_pos _ (by omega))
end
end K98

/-! S8b: the law's helpers, on. -/
namespace K98
open PySem PySem.Spec PyProof.Rows L2
def stepL (s : Bool × Int) (ts : List Int) : List Int := if s.1 = true then ts.filter fun t => decide (s.2 ≤ t) else if ts.sum < s.2 then [] else ts
theorem left_cons (s : Bool × Int) (r : List (Bool × Int)) (ts : List Int) : left (s :: r) ts = left r (stepL s ts) := by
  obtain ⟨b, m⟩ := s
  cases b <;> rfl
theorem left_snoc (s : Bool × Int) : ∀ (r : List (Bool × Int)) (ts : List Int), left (r ++ [s]) ts = stepL s (left r ts)
  | [], ts => left_cons s [] ts
  | q :: r, ts => by
    rw [List.cons_append, left_cons, left_cons]
    exact left_snoc s r _
theorem stepL_len (s : Bool × Int) (ts : List Int) : (stepL s ts).length ≤ ts.length := by
  unfold stepL
  split
  · exact List.length_filter_le _ _
  · split
    · exact Nat.zero_le _
    · exact Nat.le_refl _
theorem left_len : ∀ (r : List (Bool × Int)) (ts : List Int), (left r ts).length ≤ ts.length
  | [], _ => Nat.le_refl _
  | s :: r, ts => by
    rw [left_cons]
    exact Nat.le_trans (left_len r _) (stepL_len s ts)
def boxSp (K : PySem.W.Frag) : Sp := fun vs H Q _ => ∃ (I : Hp) (ns : List Int) (k : Int) (x : V), vs = [x, .int k] ∧ Sub I H ∧ At K I x (.lst (ns.map D.int)) ∧ 0 ≤ k ∧ k < 1000 ∧ ∀ u I' H', Gr [] I H I' H' → H u = none → UrnAt u 0 I' H' → Q (.ref u) H'
section
variable {K : PySem.W.Frag} {σ : L2.St} {I H I' H' : Hp} {ta tb te : TE} {d e : D}
theorem rd_repL {ds : List D} {k : Int} (h1 : -(2 ^ 63) ≤ k) (h2 : k < 2 ^ 63) (hz : ds.length * k.toNat ≤ 100000) : RvD K rRep (.lst ds) (.int k) (.lst (List.replicate k.toNat ds).flatten) := fun x y I H s hx hy Q q => by
  cases hy
  cases hx with
  | lst k1 k2 =>
    refine ⟨_, k, _, rfl, rfl, s _ _ k1, h1, h2, ?_, fun p hp => q _ (upd I p _) _ (.new s hp) (at_lst ?_ (sub_free s hp))⟩
    · rw [k2.length]
      exact Nat.le_trans hz (by decide)
    · generalize k.toNat = n
      induction n with
      | zero => exact .nil
      | succ n ih =>
        rw [List.replicate_succ, List.flatten_cons, List.replicate_succ, List.flatten_cons]
        exact k2.append ih
/-- xs = xs + e, the list beside what is known; so is the new one -/
theorem sq_catX {i j : Nat} {l : Addr} {xs : List V} {ds : List D} {u : TS} {Dn : Ends} (hv : σ[i]? = some (some (.ref l))) (hl : H l = some (.lst xs)) (nl : I l = none) (h : EvD K te σ I H (.lst ds)) (s : Sub I H) (hz : xs.length + ds.length ≤ 100000)
    (k : ∀ p zs I1 H1, Gr [] I H I1 H1 → H p = none → I1 p = none → H1 p = some (.lst (xs ++ zs)) → AtL K I1 zs ds → u Dn (σ.set j (some (.ref p))) H1) : tSeq (tAsg (tOp rCat (tVar i) te) (gName j)) u Dn σ H :=
  ⟨.ref l, hv, h I H (.refl s) _ fun y I1 H1 g1 a1 => by
    cases a1 with
    | lst k1 k2 =>
      refine ⟨l, _, xs, _, rfl, rfl, g1.keep l _ nl hl (by simp), g1.sub _ _ k1, ?_, fun p hp => ?_⟩
      · rw [k2.length]
        exact Nat.le_trans hz (by decide)
      · exact k p _ I1 _ (g1.tr (.side g1.sub hp)) (g1.back hp) (sub_free g1.sub hp) upd_same k2⟩
theorem ite_D {a : Addr} {xs : List V} {ds : List D} (h : I a = some (.lst xs)) (as : AtL K I xs ds) : ItD K (Ite K a) I ((List.range ds.length).map fun i => D.tup [.int (i : Nat), ds.getD i .non]) := by
  have get : ∀ {i : Nat} {d : D}, ((List.range ds.length).map fun i => D.tup [.int (i : Nat), ds.getD i .non])[i]? = some d → ∃ e v, ds[i]? = some e ∧ xs[i]? = some v ∧ At K I v e ∧ d = .tup [.int (i : Nat), e] := fun {i d} e => by
    rw [List.getElem?_map] at e
    obtain ⟨k, hk, rfl⟩ := Option.map_eq_some_iff.mp e
    obtain ⟨hl, rfl⟩ := List.getElem?_eq_some_iff.mp hk
    rw [List.length_range] at hl
    obtain ⟨v, hv, av⟩ := as.get (List.getElem?_eq_getElem hl)
    refine ⟨ds[i], v, List.getElem?_eq_getElem hl, hv, av, ?_⟩
    rw [List.getElem_range, List.getD_eq_getElem?_getD, List.getElem?_eq_getElem hl]
    rfl
  refine ⟨fun i d I3 H3 le s e => ?_, fun i d I3 H3 x H4 le s e y => ?_, fun I3 H3 le s => ?_⟩
  · obtain ⟨e1, v, _, hv, _⟩ := get e
    exact ⟨xs, v, .of (s _ _ (le _ _ h)), hv⟩
  · obtain ⟨e1, v, _, hv, av, rfl⟩ := get e
    obtain ⟨T, x1, rfl, hT, rfl, y2⟩ := y
    have z := y2 _ (.of (s _ _ (le _ _ h)))
    rw [hv] at z
    cases z
    exact ⟨upd I3 T _, .new s hT, at_tup (.cons (.int _) (.cons (At.le le.le _ av) .nil)) (sub_free s hT)⟩
  · refine ⟨xs, .of (s _ _ (le _ _ h)), ?_⟩
    rw [List.length_map, List.length_range, as.length]
    exact Nat.le_refl _
theorem ei_enum {ta : TA} {ds : List D} (h : EvA K ta σ I H [.lst ds]) : EvI K (iEnum K ta) σ I H ((List.range ds.length).map fun i => D.tup [.int (i : Nat), ds.getD i .non]) := fun I1 H1 g R q =>
  h I1 H1 g _ fun vs I2 H2 g2 as => by
    obtain ⟨v, rfl, av⟩ := as.one
    cases av with
    | lst k1 k2 => exact ⟨_, _, rfl, .of (g2.sub _ _ k1), q _ I2 H2 g2 (ite_D k1 k2)⟩
/-- xs[lo:hi] of a list that stands somewhere -/
theorem ed_slS {i : Nat} {a : Addr} {xs : List V} {ds : List D} {tl th : TO} {lo hi : Option Int} (hv : σ[i]? = some (some (.ref a))) (hs : SqL K I a xs) (as : AtL K I xs ds) (h1 : EvO tl σ I H lo) (h2 : EvO th σ I H hi) : EvD K (L2.tSl (rSlL K) (tVar i) tl th) σ I H (.lst (cutD ds lo hi)) := fun I1 H1 g Q q =>
  ⟨.ref a, hv, h1 I1 H1 g _ fun I2 H2 g2 => h2 I2 H2 (g.tr g2) _ fun I3 H3 g3 => by
    have g13 := g.tr (g2.tr g3)
    refine ⟨a, xs, rfl, (sub_le g3.sub).l (g13.le.l hs), fun p hp => q _ (upd I3 p _) _ ((g2.tr g3).tr (.new g3.sub hp)) (at_lst ?_ (sub_free g3.sub hp))⟩
    unfold cutV cutD
    rw [as.length]
    exact ((as.gr g13).drop _).take _⟩
end
section
variable {P : Program} {w : World} {K : PySem.W.Frag} {mg : Str → Option Value} {base : Heap}
abbrev N_law_of : List Str := ["_law_urn", "_law_some_so"]
theorem sc_law_of : FnScope N_law_of ["_law_urn", "_law_some_so"] (defScope s_law_of) := ⟨rfl, rfl, rfl, by decide +kernel, rfl, by decide +kernel, by decide +kernel⟩
theorem ok_law_of (T : Txt K mg) (G_law_take : Kn P w K mg base 1 1069 ["_law_urn", "_law_low_so"] (takeSp K)) : Kn P w K mg base 2 1083 ["_law_urn", "_law_some_so"] (ofSp K) := by
  refine Kn.of T.f_law_of sc_law_of (fun _ _ _ _ _ _ us hl => match us, hl with | [_, _], _ => rfl) (fun vs H Q E h => ?_) fun cdv A outer s H0 vs Q E hr h => ?_
  · obtain ⟨I, u, m, x, rfl, _⟩ := h
    rfl
  · refine ⟨_, ((pss_one (ps_ret (pe_ix ix_list (pv 1) (pc G_law_take (hr.mono (by decide)) T.g_law_take (pa_cons (pv 0) (pa_cons (pe_callB call_len_seq (by rfl) T.z_len PySem.boot_len (pa_cons (pv 1) pa_nil)) pa_nil))) (fun _ _ => rfl)))) : PSs _ _ _).nox, ?_⟩
    obtain ⟨I, u, m, x, rfl, s1, hU, hm, ax, q⟩ := h
    refine ⟨x, rfl, (EvA.run' (K := K) (ds := [.val (.ref u), .int 2]) (ea_cons (ed_var rfl (.val _)) (ea_cons (ed_cb (ea_cons (ed_var rfl ax) ea_nil) rc_lenL) ea_nil)) s1 fun vs I1 H1 g1 as => ?_)⟩
    obtain ⟨v1, v2, rfl, b1, b2⟩ := as.two
    cases b1
    cases b2
    refine ⟨I1, u, m, 2, rfl, g1.sub, hU.gr g1, hm, by decide, by decide, fun r I2 H2 g2 hU2 r0 r2 => ?_⟩
    have ax2 := (ax.gr g1).gr g2
    have g02 := (g1.any (M := [u])).two g2 (hU.gr g1).some
    cases ax2 with
    | lst k1 k2 =>
      obtain ⟨w1, w2, rfl, c1, c2⟩ := k2.two
      cases c1
      cases c2
      rcases (show r = 0 ∨ r = 1 by omega) with rfl | rfl
      · exact ⟨_, _, 0, _, rfl, rfl, .of (g2.sub _ _ k1), rfl, q true I2 H2 g02 hU2⟩
      · exact ⟨_, _, 1, _, rfl, rfl, .of (g2.sub _ _ k1), rfl, q false I2 H2 g02 hU2⟩
abbrev N_law_stride : List Str := ["_law_urn", "_law_top"]
theorem sc_law_stride : FnScope N_law_stride ["_law_urn", "_law_top"] (defScope s_law_stride) := ⟨rfl, rfl, rfl, by decide +kernel, rfl, by decide +kernel, by decide +kernel⟩
theorem ok_law_stride (T : Txt K mg) (G_law_take : Kn P w K mg base 1 1069 ["_law_urn", "_law_low_so"] (takeSp K)) (G_law_of : Kn P w K mg base 2 1083 ["_law_urn", "_law_some_so"] (ofSp K)) : Kn P w K mg base 3 1095 ["_law_urn", "_law_top"] (strideSp K) := by
  refine Kn.of T.f_law_stride sc_law_stride (fun _ _ _ _ _ _ us hl => match us, hl with | [_, _], _ => rfl) (fun vs H Q E h => ?_) fun cdv A outer s H0 vs Q E hr h => ?_
  · obtain ⟨I, u, m, c, rfl, _⟩ := h
    rfl
  · refine ⟨_, ((pss_one (ps_ret (pe_tup (pa_cons (pc G_law_of (hr.mono (by decide)) T.g_law_of (pa_cons (pv 0) (pa_cons (pe_lst (pa_cons pe_str (pa_cons pe_str pa_nil))) pa_nil))) (pa_cons (pe_op op_add pe_int (pc G_law_take (hr.mono (by decide)) T.g_law_take (pa_cons (pv 0) (pa_cons (pv 1) pa_nil)))) pa_nil))))) : PSs _ _ _).nox, ?_⟩
    obtain ⟨I, u, m, c, rfl, s1, hU, hm, hc1, hc2, q⟩ := h
    refine tc_run (K := K) (sp := ofSp K) (ds := [.val (.ref u), .lst [.str (kd true), .str (kd false)]]) (ea_cons (ed_var rfl (.val _)) (ea_cons (ed_lst (ea_cons ed_str (ea_cons ed_str ea_nil)) (by simp)) ea_nil)) s1 fun vs I1 H1 g1 as => ?_
    obtain ⟨v1, v2, rfl, b1, b2⟩ := as.two
    cases b1
    refine ⟨I1, u, m, v2, rfl, g1.sub, hU.gr g1, by omega, b2, fun t I2 H2 g2 hU2 => ?_⟩
    refine ⟨.ref u, rfl, .int c, rfl, I2, u, m + 1, c, rfl, g2.sub, hU2, by omega, hc1, hc2, fun r I3 H3 g3 hU3 r0 r2 => ?_⟩
    refine ⟨1, r, rfl, rfl, by show 2 ≤ _; decide, fun p hp => ?_⟩
    have g4 : Gr [] I3 H3 (upd I3 p (.tup [.str (kd t), .int (1 + r)])) (upd H3 p (.tup [.str (kd t), .int (1 + r)])) := .new g3.sub hp
    refine q _ (t, 1 + r) _ _ ((((g1.any (M := [u])).two g2 (hU.gr g1).some).two g3 hU2.some).onE g4 hU3.some) (hU3.gr g4) (at_tup (.cons (.str _) (.cons (.int _) .nil)) (sub_free g3.sub hp)) ?_ ?_
    · show 1 ≤ 1 + r
      omega
    · show 1 + r ≤ c
      omega
abbrev N_law_line : List Str := ["_law_urn", "_law_most_so", "_law_top", "_law_turn"]
theorem sc_law_line : FnScope N_law_line ["_law_urn", "_law_most_so", "_law_top"] (defScope s_law_line) := ⟨rfl, rfl, rfl, by decide +kernel, rfl, by decide +kernel, by decide +kernel⟩
theorem ok_law_line (T : Txt K mg) (G_law_take : Kn P w K mg base 1 1069 ["_law_urn", "_law_low_so"] (takeSp K)) (G_law_stride : Kn P w K mg base 3 1095 ["_law_urn", "_law_top"] (strideSp K)) : Kn P w K mg base 4 1100 ["_law_urn", "_law_most_so", "_law_top"] (lineSp K) := by
  refine Kn.of T.f_law_line sc_law_line (fun _ _ _ _ _ _ us hl => match us, hl with | [_, _, _], _ => rfl) (fun vs H Q E h => ?_) fun cdv A outer s H0 vs Q E hr h => ?_
  · obtain ⟨I, u, m, rfl, _⟩ := h
    rfl
  · refine ⟨_, ((pss_one (ps_ret (pe_callTy call_tuple_of (by rfl) T.z_tuple (by decide +kernel) (pa_cons (pe_lc (own := [("_law_turn", 3)]) (g := (gName 3)) (tt := tYes) rfl sc_law_line.nd (pi_range1 (by rfl) T.z_range (pa_cons (pc G_law_take (hr.mono (by decide)) T.g_law_take (pa_cons (pv 0) (pa_cons (pe_op op_add (pv 1) pe_int) pa_nil))) pa_nil)) (blkOk_by (N := N_law_line) (sc := defScope s_law_line) (by decide +kernel)) (fun _ _ _ _ _ => (pg_name (i := 3) sc_law_line.nd rfl (Or.inl rfl))) (fun _ _ _ _ _ => pts_nil) (fun _ _ _ _ _ => (pc G_law_stride (hr.mono (by decide)) T.g_law_stride (pa_cons (pv 0) (pa_cons (pv 2) pa_nil))))) pa_nil)))) : PSs _ _ _).nox, ?_⟩
    obtain ⟨I, u, m, rfl, s1, hU, hm, q⟩ := h
    refine tc_run (K := K) (sp := takeSp K) (ds := [.val (.ref u), .int 3]) (ea_cons (ed_var rfl (.val _)) (ea_cons (ed_op (ed_var rfl (.int 2)) ed_int rd_I0) ea_nil)) s1 fun vs I1 H1 g1 as => ?_
    obtain ⟨v1, v2, rfl, b1, b2⟩ := as.two
    cases b1
    cases b2
    refine ⟨I1, u, m, 3, rfl, g1.sub, hU.gr g1, by omega, by decide, by decide, fun r I2 H2 g2 hU2 r0 r2 => ?_⟩
    have g02 := (g1.any (M := [u])).two g2 (hU.gr g1).some
    refine ⟨r, rfl, by omega, by omega, fun Dl hD => ?_⟩
    have nD := sub_free g2.sub hD
    refine ⟨fun i mm H' => mm = r.toNat - i ∧ i ≤ r.toNat ∧ ∃ Ii ys ss, Gr [u] I2 H2 Ii H' ∧ UrnAt u (m + 1 + 2 * i) Ii H' ∧ Ii Dl = none ∧ H' Dl = some (.lst ys) ∧ AtL K Ii ys (ss.map strideD) ∧ ss.length = i ∧ Small ss,
      ⟨r.toNat, by simp, Nat.zero_le _, I2, [], [], (Gr.side g2.sub hD), hU2.gr (.side g2.sub hD), nD, upd_same, .nil, rfl, fun s hs => (nomatch hs)⟩, ?_⟩
    rintro i mm H3 ⟨rfl, hi, I3, ys, ss, g3, hU3, n3, h3, a3, hl, hs⟩
    have hDu : Dl ≠ u := fun z => by
      obtain ⟨o, ho⟩ := hU2.some
      rw [z, ho] at hD
      cases hD
    by_cases hlt : i < r.toNat
    · refine .inr ⟨hlt, fun H' => ∃ Ii ys ss, Gr [u] I2 H2 Ii H' ∧ UrnAt u (m + 1 + 2 * (i + 1)) Ii H' ∧ Ii Dl = none ∧ H' Dl = some (.lst ys) ∧ AtL K Ii ys (ss.map strideD) ∧ ss.length = i + 1 ∧ Small ss, fun H' ⟨Ii, ys', ss', z⟩ => ⟨r.toNat - (i + 1), by omega, rfl, hlt, Ii, ys', ss', z⟩, fun x H4 y => ?_⟩
      obtain ⟨rfl, rfl⟩ := y
      refine ⟨rfl, ?_⟩
      unfold tYes
      dsimp only
      rw [if_pos rfl]
      refine ⟨.ref u, rfl, .int 7, rfl, ?_⟩
      refine ⟨I3, u, m + 1 + 2 * i, 7, rfl, g3.sub, hU3, by omega, by decide, by decide, fun v s I4 H4 g4 hU4 av s1' s2' => ?_⟩
      have n4 := g4.out Dl _ n3 h3
      have h4 := g4.keep Dl _ n3 h3 (by simpa using hDu)
      refine ⟨ys, h4, ?_, I4, ys ++ [v], ss ++ [s], ((g3.two g4 hU3.some).mut hD n4), ?_, n4, upd_same, ?_, ?_, ?_⟩
      · rw [a3.length, List.length_map, hl]
        exact Nat.lt_of_le_of_lt (show i ≤ 100 by omega) (by decide)
      · obtain ⟨q0, n0, n1, n2, q1, q2, q3⟩ := hU4
        exact ⟨q0, n0, n1, n2, by rw [upd_ne (Ne.symm hDu)]; exact q1, q2, by omega⟩
      · rw [List.map_append]
        exact (a3.gr g4).snoc av
      · rw [List.length_append, hl]
        rfl
      · intro t ht
        rcases List.mem_append.mp ht with h | h
        · exact hs t h
        · rw [List.mem_singleton.mp h]
          exact ⟨s1', s2'⟩
    · have e : i = r.toNat := by omega
      refine .inl ⟨by show r.toNat ≤ i; omega, Dl, ys, rfl, .inl ⟨.of h3, fun p hp => ?_⟩⟩
      have g5 : Gr [] I3 H3 (upd I3 p (.tup ys)) (upd H3 p (.tup ys)) := .new g3.sub hp
      exact q _ ss _ _ ((g02.two g3 hU2.some).onE g5 hU3.some) ((hU3.gr g5).le (by omega)) (at_tup a3 (sub_free g3.sub hp)) (by omega) hs
abbrev N_law_host : List Str := ["_law_line_here", "_law_sort_so", "_law_much"]
theorem sc_law_host : FnScope N_law_host ["_law_line_here"] (defScope s_law_host) := ⟨rfl, rfl, rfl, by decide +kernel, rfl, by decide +kernel, by decide +kernel⟩
def R_law_host : List D → D → Prop := fun ds d => ∃ ss : List (Bool × Int), ds = [.tup (ss.map strideD)] ∧ (∀ s ∈ ss, 1 ≤ s.2) ∧ ss.length < 900 ∧ d = scriptD ss
theorem ok_law_host (T : Txt K mg) (G_Step_init : Kn P w K mg base 1 487 ["self", "kind", "least"] (initSp K 538 R_Step_init)) (G_Script_init : KnD P w K mg base 5 610 ["self", "steps"] (.ref 602) (initSp K 756 R_Script_init)) : Kn P w K mg base 7 1105 ["_law_line_here"] (pureSp K R_law_host) := by
  refine Kn.pure T.f_law_host sc_law_host (fun _ _ _ _ _ _ us hl => match us, hl with | [_], _ => rfl) (fun ds d r => ?_) fun cdv A outer s H0 E hr => ?_
  · obtain ⟨ss, rfl, _⟩ := r
    rfl
  · refine ⟨_, (pss_one (ps_ret (pmk T.k_Script G_Script_init.kn (hr.mono (by decide)) T.g_Script (pa_cons (pe_lc (own := [("_law_sort_so", 1), ("_law_much", 2)]) (g := (gTup K 2 (gCons (gName 1) (gCons (gName 2) gNil)))) (tt := tYes) rfl sc_law_host.nd (pi_tup (pv 0)) (blkOk_by (N := N_law_host) (sc := defScope s_law_host) (by decide +kernel)) (fun _ _ _ _ _ => (pg_tup rfl (pgs_cons (pg_name (i := 1) sc_law_host.nd rfl (Or.inl rfl)) (pgs_cons (pg_name (i := 2) sc_law_host.nd rfl (Or.inl rfl)) pgs_nil)))) (fun _ _ _ _ _ => pts_nil) (fun _ _ _ _ _ => (pmk T.k_Step G_Step_init (hr.mono (by decide)) T.g_Step (pa_cons (pv 1) (pa_cons (pv 2) pa_nil))))) pa_nil)))), ?_⟩
    rintro vs ds d I s1 a ⟨ss, rfl, h1, hz, rfl⟩
    obtain ⟨v, rfl, av⟩ := a.one
    have key := ed_lc (K := K) (tt := tYes) (te := tMake 538 (initSp K 538 R_Step_init) [] E0 (tCons (tVar 1) (tCons (tVar 2) tNil))) ss strideD (fun _ => true) stepD (fun s σ2 I => ∃ x y, At K I x (.str (kd s.1)) ∧ At K I y (.int s.2) ∧ σ2 = ((wipe (L2.start N_law_host [v]) [1, 2]).set 1 (some x)).set 2 (some y)) (ei_tup (ed_var (σ := L2.start N_law_host [v]) (H := H0) (i := 0) rfl av)) (by omega) (fun s => bd_pair) fun s hs σ2 I1 H1 g ⟨x, y, ax, ay, e⟩ => by
      subst e
      exact ⟨rfl, eb_yes, fun _ => ed_make (ea_cons (ed_var rfl ax) (ea_cons (ed_var rfl ay) ea_nil)) ⟨s.1, s.2, rfl, h1 s hs, rfl⟩⟩
    rw [filter_yes] at key
    exact rt_ret (ed_make (ea_cons key ea_nil) ⟨ss, .inl rfl, by omega, rfl⟩) s1
abbrev N_law_left : List Str := ["_law_line_here", "_law_towns_so", "_law_sort_so", "_law_much", "_law_own"]
theorem sc_law_left : FnScope N_law_left ["_law_line_here", "_law_towns_so"] (defScope s_law_left) := ⟨rfl, rfl, rfl, by decide +kernel, rfl, by decide +kernel, by decide +kernel⟩
def R_law_left : List D → D → Prop := fun ds d => ∃ (ss : List (Bool × Int)) (ts : List Int), ds = [.tup (ss.map strideD), .lst (ts.map D.int)] ∧ ts.length < 1000 ∧ d = .lst ((left ss ts).map D.int)
theorem ok_law_left (T : Txt K mg) : Kn P w K mg base 1 1110 ["_law_line_here", "_law_towns_so"] (pureSp K R_law_left) := by
  refine Kn.pure T.f_law_left sc_law_left (fun _ _ _ _ _ _ us hl => match us, hl with | [_, _], _ => rfl) (fun ds d r => ?_) fun cdv A outer s H0 E hr => ?_
  · obtain ⟨ss, ts, rfl, _⟩ := r
    rfl
  · refine ⟨_, (pss_cons (ps_for PassesOwn.never rfl (pi_tup (pv 0)) (pg_tup rfl (pgs_cons (pg_name (i := 2) sc_law_left.nd rfl (Or.inl rfl)) (pgs_cons (pg_name (i := 3) sc_law_left.nd rfl (Or.inr rfl)) pgs_nil))) (pss_one (ps_if (pt_cmpR op_eq (pv 2) pe_str (nomark _)) (pss_one (ps_setLc (i := 1) (own := [("_law_own", 4)]) (g := (gName 4)) rfl sc_law_left.nd rfl rfl (sw_true rfl rfl rfl (by decide +kernel)) (pi_list (pv 1)) (blkOk_by (N := N_law_left) (sc := defScope s_law_left) (by decide +kernel)) (fun _ _ _ _ _ => (pg_name (i := 4) sc_law_left.nd rfl (Or.inl rfl))) (fun _ _ _ _ _ => (pts_one (pt_cmpR op_ge (pv 4) (pv 3) (nomark _)))) (fun _ _ _ _ _ => (pv 4)))) (pss_one (ps_if (pt_cmpR op_lt (pe_callB (cr_sum rfl) (by rfl) T.z_sum (by decide +kernel) (pa_cons (pv 1) pa_nil)) (pv 3) (nomark _)) (pss_one (ps_set (i := 1) sc_law_left.nd rfl (Or.inl rfl) (pe_lst pa_nil))) pss_nil))))) (pss_one (ps_ret (pv 1)))), ?_⟩
    rintro vs ds d I s1 a ⟨ss, ts, rfl, hz, rfl⟩
    obtain ⟨v, u, rfl, av, au⟩ := a.two
    refine fun Dn q => sq_for (K := K) (M := []) ss strideD (fun i σ1 I2 H2 => ∃ t q2 q3, Gr [] I H0 I2 H2 ∧ At K I2 t (.lst ((left (ss.take i) ts).map D.int)) ∧ σ1 = [some v, some t, q2, q3, none]) (ei_tup (ed_var rfl av)) s1 (fun I2 H2 g2 => ⟨_, _, _, g2, au.gr g2, rfl⟩) ?_ ?_
    · rintro i s x σ1 I2 H2 hp ⟨t, q2, q3, g2, a2, rfl⟩ I3 H3 g3 a3 N hN
      refine bd_pair x I3 H3 g3.sub a3 _ ?_
      rintro σ2 ⟨x1, y1, ax1, ay1, rfl⟩
      cases ax1
      cases ay1
      have hl := left_len (ss.take i) ts
      have hlen : ∀ I' H' (v' : V), Gr [] I3 H3 I' H' → At K I' v' (.lst ((stepL s (left (ss.take i) ts)).map D.int)) → N [some v, some v', some (.str (kd s.1)), some (.int s.2), none] H' := fun I' H' v' g' a' => hN _ I' H' g' ⟨v', _, _, (g2.tr g3).tr g', by rw [take_succ hp, left_snoc]; exact a', rfl⟩
      refine sx_if (b := s.1) ((eb_test (K := K) (ed_op (ed_var rfl (.str (kd s.1))) ed_str rd_eqS)).is (kd_town s.1)) g3.sub (fun hb I4 H4 g4 => ?_) fun hb I4 H4 g4 => ?_
      · refine sx_asg (K := K) (d := .lst ((stepL s (left (ss.take i) ts)).map D.int)) ((ed_lcN (left (ss.take i) ts) D.int (fun t => decide (t ≥ s.2)) D.int (ei_list (ed_var rfl (a2.gr (g3.tr g4)))) (by omega) fun t ht y I5 H5 g5 ay => ?_).is ?_) g4.sub fun v5 I5 H5 g5 a5 => hlen I5 H5 v5 (g4.tr g5) a5
        · cases ay
          exact ⟨rfl, eb_test (K := K) (ed_op (ed_var rfl (.int t)) (ed_var rfl (.int s.2)) rd_B0), fun _ => ed_var rfl (.int t)⟩
        · unfold stepL
          rw [if_pos hb]
      · refine sx_if (b := decide ((left (ss.take i) ts).sum < s.2)) (eb_test (K := K) (ed_op (ed_cb (ea_cons (ed_var rfl (a2.gr (g3.tr g4))) ea_nil) rc_sum) (ed_var rfl (.int s.2)) rd_B0)) g4.sub (fun hc I5 H5 g5 => ?_) fun hc I5 H5 g5 => ?_
        · refine sx_asg (K := K) (d := .lst []) (ed_lst ea_nil (by simp)) g5.sub fun v6 I6 H6 g6 a6 => hlen I6 H6 v6 ((g4.tr g5).tr g6) ?_
          unfold stepL
          rw [if_neg (by rw [hb]; decide), if_pos (of_decide_eq_true hc)]
          exact a6
        · refine hlen I5 H5 t (g4.tr g5) ?_
          unfold stepL
          rw [if_neg (by rw [hb]; decide), if_neg (of_decide_eq_false hc)]
          exact a2.gr (g3.tr (g4.tr g5))
    · rintro σ1 I2 H2 s2 ⟨t, q2, q3, g2, a2, rfl⟩
      rw [List.take_length] at a2
      exact sx_ret g2 q (ed_var rfl a2)
abbrev N_law_all_in : List Str := ["_law_some_so", "_law_more_so", "_law_own"]
theorem sc_law_all_in : FnScope N_law_all_in ["_law_some_so", "_law_more_so"] (defScope s_law_all_in) := ⟨rfl, rfl, rfl, by decide +kernel, rfl, by decide +kernel, by decide +kernel⟩
def R_law_all_in : List D → D → Prop := fun ds d => ∃ a b : List Int, ds = [.lst (a.map D.int), .lst (b.map D.int)] ∧ a.length < 1000 ∧ d = .bl (allIn a b)
theorem ok_law_all_in (T : Txt K mg) : Kn P w K mg base 1 1127 ["_law_some_so", "_law_more_so"] (pureSp K R_law_all_in) := by
  refine Kn.pure T.f_law_all_in sc_law_all_in (fun _ _ _ _ _ _ us hl => match us, hl with | [_, _], _ => rfl) (fun ds d r => ?_) fun cdv A outer s H0 E hr => ?_
  · obtain ⟨a, b, rfl, _⟩ := r
    rfl
  · refine ⟨_, (pss_one (ps_ret (pe_callB (cr_all rfl) (by rfl) T.z_all (by decide +kernel) (pa_cons (pe_lc (own := [("_law_own", 2)]) (g := (gName 2)) (tt := tYes) rfl sc_law_all_in.nd (pi_list (pv 0)) (blkOk_by (N := N_law_all_in) (sc := defScope s_law_all_in) (by decide +kernel)) (fun _ _ _ _ _ => (pg_name (i := 2) sc_law_all_in.nd rfl (Or.inl rfl))) (fun _ _ _ _ _ => pts_nil) (fun _ _ _ _ _ => (pe_cmpR (op_in_seqK (K := K) rfl) (pv 2) (pv 1) (by rfl)))) pa_nil)))), ?_⟩
    rintro vs ds d I s1 a0 ⟨a, b, rfl, hz, rfl⟩
    obtain ⟨v, u, rfl, av, au⟩ := a0.two
    refine rt_ret ((ed_cb (ea_cons ((ed_lcNY a D.int (fun x => .bl (b.contains x)) (ei_list (ed_var rfl av)) (by omega) (fun _ => rfl) fun x hx y I1 H1 g1 ay => ?_).is (congrArg D.lst (List.map_map (f := fun x => b.contains x) (g := D.bl)).symm)) ea_nil) rc_all).is ?_) s1
    · cases ay
      exact ed_op (ed_var rfl (.int x)) (ed_var rfl (au.gr g1)) rd_inIL
    · rw [List.all_map]
      rfl
end
end K98

/-! S8c: papers, box, cells. -/
namespace K98
open PySem PySem.Spec PyProof.Rows L2
def encT (p : List Int) : D := .lst (p.map D.int)
theorem papersAt_len (s : Int) : (papersAt s).length = 8 := rfl
theorem papersAt_le (xs : List Int) : (xs.flatMap papersAt).length ≤ xs.length * 8 := flat_len fun a _ => Nat.le_of_eq (papersAt_len a)
def cellsSp (K : PySem.W.Frag) : Sp := fun vs H Q _ => ∃ (I : Hp) (a : Addr) (ns : List Int), vs = [.ref a, .int 2] ∧ Sub I H ∧ SqL K I a (ns.map V.int) ∧ ns.length ≤ 63 ∧ ∀ v (ms : List Int) I' H', Gr [] I H I' H' → At K I' v (.lst (ms.map D.int)) → ms.length ≤ 2 → Q v H'
section
variable {P : Program} {w : World} {K : PySem.W.Frag} {mg : Str → Option Value} {base : Heap}
abbrev N_law_papers : List Str := ["_law_found", "_law_size_so", "_law_far"]
theorem sc_law_papers : FnScope N_law_papers [] (defScope s_law_papers) := ⟨rfl, rfl, rfl, by decide +kernel, rfl, by decide +kernel, by decide +kernel⟩
def R_law_papers : List D → D → Prop := fun ds d => ds = [] ∧ d = .lst (papers.map encT)
theorem ok_law_papers (T : Txt K mg) : Kn P w K mg base 1 1122 [] (pureSp K R_law_papers) := by
  refine Kn.pure T.f_law_papers sc_law_papers (fun _ _ _ _ _ _ us hl => match us, hl with | [], _ => rfl) (fun ds d r => ?_) fun cdv A outer s H0 E hr => ?_
  · obtain ⟨rfl, _⟩ := r
    rfl
  · refine ⟨_, (pss_cons (ps_set (i := 0) sc_law_papers.nd rfl (Or.inl rfl) (pe_lst pa_nil)) (pss_cons (ps_for PassesOwn.never rfl (pi_range2 (by rfl) T.z_range (pa_cons pe_int (pa_cons pe_int pa_nil))) (pg_name (i := 1) sc_law_papers.nd rfl (Or.inr rfl)) (pss_cons (ps_set (i := 0) sc_law_papers.nd rfl (Or.inl rfl) (pe_op op_cat (pv 0) (pe_lc (own := [("_law_far", 2)]) (g := (gName 2)) rfl sc_law_papers.nd (pi_range2 (by rfl) T.z_range (pa_cons pe_int (pa_cons pe_int pa_nil))) (blkOk_by (N := N_law_papers) (sc := defScope s_law_papers) (by decide +kernel)) (fun _ _ _ _ _ => (pg_name (i := 2) sc_law_papers.nd rfl (Or.inl rfl))) (fun _ _ _ _ _ => (pts_one (pt_cmpR op_gt (pv 2) pe_int (nomark _)))) (fun _ _ _ _ _ => (pe_op op_cat (pe_lst (pa_cons (pv 1) pa_nil)) (pe_op op_rep (pe_lst (pa_cons (pv 2) pa_nil)) pe_int)))))) (pss_one (ps_expr (pe_bm PySem.F.plainAttrs_list PySem.F.slot_list_append PySem.F.type_list_append mt_append (pv 0) (pa_cons (pe_lst (pa_cons (pv 1) pa_nil)) pa_nil)))))) (pss_one (ps_ret (pv 0))))), ?_⟩
    rintro vs ds d I s1 a ⟨rfl, rfl⟩
    cases a
    refine fun Dn q => sq_new s1 fun l hl nl g0 => ?_
    refine sq_for (K := K) (M := []) ([1, 2, 3, 4, 5, 6, 7, 8, 9] : List Int) D.int (fun i σ1 I2 H2 => ∃ l ys q1, Gr [] I H0 I2 H2 ∧ H0 l = none ∧ I2 l = none ∧ H2 l = some (.lst ys) ∧ AtL K I2 ys (((([1, 2, 3, 4, 5, 6, 7, 8, 9] : List Int).take i).flatMap papersAt).map encT) ∧ σ1 = [some (.ref l), q1, none])
      ((ei_rng2 (K := K) (i := 1) (j := 10) (ea_cons ed_int (ea_cons ed_int ea_nil)) (by decide)).is rfl) g0.sub (fun I2 H2 g2 => ⟨l, [], _, g0.tr g2, hl, g2.out l _ nl upd_same, g2.keep l _ nl upd_same (by simp), .nil, rfl⟩) ?_ ?_
    · rintro i n x σ1 I2 H2 hp ⟨l, ys, q1, g2, hl0, n2, h2, a2, rfl⟩ I3 H3 g3 a3 N hN
      refine bd_name x I3 H3 g3.sub a3 _ ?_
      rintro σ2 ⟨x1, ax1, rfl⟩
      cases ax1
      have n3 := g3.out l _ n2 h2
      have h3 := g3.keep l _ n2 h2 (by simp)
      have hlen : ys.length ≤ 72 := by
        rw [a2.length, List.length_map]
        refine Nat.le_trans (papersAt_le _) ?_
        rw [List.length_take]
        show min i 9 * 8 ≤ 72
        omega
      refine sq_catX (K := K) (ds := ((([0, 1, 2, 3, 4, 5, 6, 7] : List Int).filter fun far => decide (0 < far)).map fun far => encT (n :: List.replicate 9 far))) rfl h3 n3 (ed_lcN (K := K) ([0, 1, 2, 3, 4, 5, 6, 7] : List Int) D.int (fun far => decide (0 < far)) (fun far => encT (n :: List.replicate 9 far)) ((ei_rng2 (K := K) (i := 0) (j := 8) (ea_cons ed_int (ea_cons ed_int ea_nil)) (by decide)).is rfl) (by simp) fun far hf y I4 H4 g4 ay => ?_) g3.sub ?_ fun p zs I4 H4 g4 hp4 np4 hp' az => ?_
      · cases ay
        exact ⟨rfl, eb_test (K := K) (ed_op (ed_var rfl (.int far)) ed_int rd_B0), fun _ => (ed_op (ed_lst (ea_cons (ed_var rfl (.int n)) ea_nil) (by simp)) (ed_op (ed_lst (ea_cons (ed_var rfl (.int far)) ea_nil) (by simp)) ed_int (rd_repL (by decide) (by decide) (by show 9 ≤ _; decide))) (rd_catL (by show 10 ≤ _; decide))).is rfl⟩
      · rw [List.length_map]
        have := List.length_filter_le (fun far : Int => decide (0 < far)) [0, 1, 2, 3, 4, 5, 6, 7]
        simp only [List.length_cons, List.length_nil] at this
        omega
      · have hz2 : zs.length ≤ 8 := by
          rw [az.length, List.length_map]
          exact List.length_filter_le (fun far : Int => decide (0 < far)) [0, 1, 2, 3, 4, 5, 6, 7]
        refine sx_app (K := K) (d := encT [n]) (xs := ys ++ zs) rfl hp' np4 (ed_lst (ea_cons (ed_var rfl (.int n)) ea_nil) (by simp)) g4.sub (by rw [List.length_append]; omega) fun v5 I5 H5 g5 a5 h5 n5 => ?_
        have g35 := g4.tr g5
        have hp0 : H0 p = none := (g2.tr g3).back hp4
        refine hN _ I5 _ (g35.mut hp4 n5) ?_
        rw [take_succ hp, List.flatMap_append, List.map_append]
        refine ⟨p, _, _, ((g2.tr g3).tr g35).mut hp0 n5, hp0, n5, upd_same, ?_, rfl⟩
        rw [List.append_assoc]
        refine ((a2.gr g3).gr g35).append ?_
        rw [List.flatMap_cons, List.flatMap_nil, List.append_nil]
        unfold papersAt
        rw [List.map_append, List.map_map]
        exact (az.gr g5).snoc a5
    · rintro σ1 I2 H2 s2 ⟨l, ys, q1, g2, hl0, n2, h2, a2, rfl⟩
      obtain ⟨I4, g4, le, a4⟩ := know_l g2 hl0 h2 n2 a2
      exact sx_ret g4 q (ed_var rfl a4)
abbrev N_law_box : List Str := ["_law_script", "_law_k", "_law_cell"]
theorem sc_law_box : FnScope N_law_box ["_law_script", "_law_k"] (defScope s_law_box) := ⟨rfl, rfl, rfl, by decide +kernel, rfl, by decide +kernel, by decide +kernel⟩
theorem ok_law_box (T : Txt K mg) : Kn P w K mg base 1 1062 ["_law_script", "_law_k"] (boxSp K) := by
  refine Kn.of T.f_law_box sc_law_box (fun _ _ _ _ _ _ us hl => match us, hl with | [_, _], _ => rfl) (fun vs H Q E h => ?_) fun cdv A outer s H0 vs Q E hr h => ?_
  · obtain ⟨I, ns, k, x, rfl, _⟩ := h
    rfl
  · refine ⟨_, ((pss_cons (ps_set (i := 2) sc_law_box.nd rfl (Or.inl rfl) (pe_ifExp (pt_cmpR op_lt (pv 1) (pe_callB call_len_seq (by rfl) T.z_len PySem.boot_len (pa_cons (pv 0) pa_nil)) (nomark _)) (pe_ix ix_list (pv 0) (pv 1) (fun _ _ => rfl)) pe_int)) (pss_one (ps_ret (pe_lst (pa_cons (pe_op op_mul (pe_callB call_abs (by rfl) T.z_abs (by decide +kernel) (pa_cons (pv 2) pa_nil)) (pe_callTy call_int1 (by rfl) T.z_int (by decide +kernel) (pa_cons (pe_cmpR op_ge (pe_callB call_abs (by rfl) T.z_abs (by decide +kernel) (pa_cons (pv 2) pa_nil)) (pe_op op_pow pe_int pe_int) (nomark _)) pa_nil))) (pa_cons (pe_op op_add (pe_op op_add (pe_op op_mod (pe_callTy call_int1 (by rfl) T.z_int (by decide +kernel) (pa_cons (pv 2) pa_nil)) pe_int) (pe_op op_mul pe_int (pv 1))) pe_int) (pa_cons pe_int pa_nil))))))) : PSs _ _ _).nox, ?_⟩
    obtain ⟨I, ns, k, x, rfl, s1, ax, hk0, hk1, q⟩ := h
    obtain ⟨j, rfl⟩ : ∃ j : Nat, k = j := ⟨k.toNat, by omega⟩
    refine sq_int (K := K) (n := ns.getD j 0) (ed_if (b := decide ((j : Int) < ((ns.map D.int).length : Nat))) (eb_test (K := K) (ed_op (ed_var rfl (.int (j : Int))) (ed_cb (ea_cons (ed_var rfl ax) ea_nil) rc_lenL) rd_B0)) (fun hb => ed_op (ed_var rfl ax) (ed_var rfl (.int (j : Int))) (rd_ixL ?_)) fun hb => ed_int.is ?_) s1 fun I1 H1 g1 => ?_
    · have hj : j < ns.length := by
        have := of_decide_eq_true hb
        rw [List.length_map] at this
        omega
      unfold atI ixN
      rw [if_pos (by omega), List.length_map, if_pos (by omega)]
      show (ns.map D.int)[(j : Int).toNat]? = _
      rw [Int.toNat_natCast, List.getElem?_map, List.getD_eq_getElem?_getD, List.getElem?_eq_getElem hj]
      rfl
    · have hj : ¬ j < ns.length := by
        have := of_decide_eq_false hb
        rw [List.length_map] at this
        omega
      rw [List.getD_eq_getElem?_getD, List.getElem?_eq_none (by omega)]
      rfl
    · generalize ns.getD j 0 = c
      generalize hab : (if c < 0 then -c else c) = ab
      refine EvA.run' (K := K) (ds := [.int (ab * if decide (ab ≥ (10 : Int) ^ (18 : Int).toNat) then 1 else 0), .int (c % 2305843009213693951 + 39373 * (j : Int) + 8628098), .int 0])
        (ea_cons (ed_op ((ed_cb (ea_cons (ed_var rfl (.int c)) ea_nil) rc_abs).is (congrArg D.int hab)) (ed_cb (ea_cons (ed_op ((ed_cb (ea_cons (ed_var rfl (.int c)) ea_nil) rc_abs).is (congrArg D.int hab)) (ed_op ed_int ed_int (rd_I ⟨by decide, by decide, by decide⟩)) rd_B0) ea_nil) rc_intB) (rd_I (.inr (by split <;> decide))))
        (ea_cons (ed_op (ed_op (ed_op (ed_cb (ea_cons (ed_var rfl (.int c)) ea_nil) rc_int) ed_int (rd_I (by decide))) (ed_op ed_int (ed_var rfl (.int (j : Int))) (rd_I (.inl (by decide)))) rd_I0) ed_int rd_I0) (ea_cons ed_int ea_nil))) g1.sub fun vs I2 H2 g2 as => ?_
      obtain ⟨v1, v2, v3, rfl, b1, b2, b3⟩ := as.three
      cases b1
      cases b2
      cases b3
      refine ⟨by show 3 ≤ _; decide, fun u hu => q u I2 _ ((g1.tr g2).tr (.side g2.sub hu)) ((g1.tr g2).back hu) ⟨sub_free g2.sub hu, _, _, 0, upd_same, by decide, by decide⟩⟩
abbrev N_law_cells : List Str := ["_law_script", "_law_top", "_law_cells_here", "_law_k", "_law_cell", "_law_at_so"]
theorem sc_law_cells : FnScope N_law_cells ["_law_script", "_law_top"] (defScope s_law_cells) := ⟨rfl, rfl, rfl, by decide +kernel, rfl, by decide +kernel, by decide +kernel⟩
theorem ok_law_cells (T : Txt K mg) : Kn P w K mg base 1 1076 ["_law_script", "_law_top"] (cellsSp K) := by
  refine Kn.of T.f_law_cells sc_law_cells (fun _ _ _ _ _ _ us hl => match us, hl with | [_, _], _ => rfl) (fun vs H Q E h => ?_) fun cdv A outer s H0 vs Q E hr h => ?_
  · obtain ⟨I, a, ns, rfl, _⟩ := h
    rfl
  · refine ⟨_, ((pss_cons (ps_set (i := 2) sc_law_cells.nd rfl (Or.inl rfl) (pe_orT (pe_callTy call_list_of (by rfl) T.z_list (by decide +kernel) (pa_cons (pe_slice sl_list (pv 0) po_none (po_some (pv 1))) pa_nil)) (pe_one (pe_lst (pa_cons pe_int pa_nil))))) (pss_cons (ps_for PassesOwn.never rfl (pi_enum (by rfl) T.z_enumerate (pa_cons (pe_slice sl_list (pv 0) (po_some (pv 1)) (po_some pe_int)) pa_nil)) (pg_tup rfl (pgs_cons (pg_name (i := 3) sc_law_cells.nd rfl (Or.inl rfl)) (pgs_cons (pg_name (i := 4) sc_law_cells.nd rfl (Or.inl rfl)) pgs_nil))) (pss_cons (ps_set (i := 5) sc_law_cells.nd rfl (Or.inl rfl) (pe_op op_mod (pe_callTy call_int1 (by rfl) T.z_int (by decide +kernel) (pa_cons (pv 3) pa_nil)) (pv 1))) (pss_one (ps_asg (pe_op op_add (pe_ix ix_list (pv 2) (pv 5) (fun _ _ => rfl)) (pe_op op_mul (pv 4) (pe_op op_add (pv 3) pe_int))) (pg_sub (pv 2) (pv 5) set_list))))) (pss_one (ps_ret (pv 2))))) : PSs _ _ _).nox, ?_⟩
    obtain ⟨I, a, ns, rfl, s1, hs, hn, q⟩ := h
    have as : AtL K I (ns.map V.int) (ns.map D.int) := AtL.of_ints ns
    have L0 : ∀ (l : Addr) (ms : List Int) (I1 H1 : Hp), Gr [] I H0 I1 H1 → H0 l = none → I1 l = none → H1 l = some (.lst (ms.map V.int)) → ms.length ≤ 2 → (2 < ns.length → ms.length = 2) →
        tSeq (tFor (iEnum K (tCons (L2.tSl (rSlL K) (tVar 0) (tPart (tVar 1)) (tPart (tC (.int 63)))) tNil)) (gTup K 2 (gCons (gName 3) (gCons (gName 4) gNil))) (tSeq (tAsg (tOp (rI (fun _ j => 0 < j) fun i j => .int (i % j)) (tCB (fun xs H Q => (∃ i, xs = [.int i] ∧ Q (.int i) H) ∨ ∃ k, xs = [.bl k] ∧ Q (.int (if k then 1 else 0)) H) (tCons (tVar 3) tNil)) (tVar 1)) (gName 5))
          (tAsg (tOp (rI0 fun i j => .int (i + j)) (tOp (rIxL K) (tVar 2) (tVar 5)) (tOp (rI CMul fun i j => .int (i * j)) (tVar 4) (tOp (rI0 fun i j => .int (i + j)) (tVar 3) (tC (.int 2))))) (gSub (tVar 2) (tVar 5) L2.rSetL)))) (tRet (tVar 2)) { nx := fun _ H' => Q .non H', rt := Q } [some (.ref a), some (.int 2), some (.ref l), none, none, none] H1 := by
      intro l ms I1 H1 g1 hl0 nl hl hm2 hm
      have hz : cutD (ns.map D.int) (some 2) (some 63) = ((ns.drop (min 2 ns.length)).take (min 63 ns.length - min 2 ns.length)).map D.int := by
        unfold cutD
        rw [List.length_map, show ((2 : Int)) = ((2 : Nat) : Int) from rfl, show ((63 : Int)) = ((63 : Nat) : Int) from rfl, HT.sIx_nat, HT.sIx_nat, ← List.map_drop, ← List.map_take]
      generalize hzs : (ns.drop (min 2 ns.length)).take (min 63 ns.length - min 2 ns.length) = zs at hz
      have hzl : zs.length ≤ ns.length := by
        rw [← hzs, List.length_take, List.length_drop]
        omega
      have hz2 : 0 < zs.length → 2 < ns.length := by
        rw [← hzs, List.length_take, List.length_drop]
        omega
      refine sq_for (K := K) (M := [l]) (List.range zs.length) (fun i => D.tup [.int (i : Nat), (zs.map D.int).getD i .non]) (fun i σ1 I2 H2 => ∃ ms q3 q4 q5, Gr [] I H0 I2 H2 ∧ I2 l = none ∧ H2 l = some (.lst (ms.map V.int)) ∧ ms.length ≤ 2 ∧ (2 < ns.length → ms.length = 2) ∧ σ1 = [some (.ref a), some (.int 2), some (.ref l), q3, q4, q5])
        ((ei_enum (K := K) (ea_cons (ed_slS (ds := ns.map D.int) (lo := some 2) (hi := some 63) rfl (g1.le.l hs) (as.gr g1) (eo_some (K := K) (ed_var rfl (.int 2))) (eo_some (K := K) ed_int)) ea_nil)).is (by rw [hz, List.length_map])) g1.sub (fun I2 H2 g2 => ⟨ms, _, _, _, g1.tr g2, g2.out l _ nl hl, g2.keep l _ nl hl (by simp), hm2, hm, rfl⟩) ?_ ?_
      · rintro i n x σ1 I2 H2 hp ⟨ms, q3, q4, q5, g2, n2, h2, hm2, hm, rfl⟩ I3 H3 g3 a3 N hN
        have hi : i < zs.length := by
          have := (List.getElem?_eq_some_iff.mp hp).1
          rwa [List.length_range] at this
        have hin : n = i := by
          rw [List.getElem?_range hi] at hp
          exact (Option.some.inj hp).symm
        subst hin
        have e1 : (zs.map D.int).getD n .non = .int (zs[n]'hi) := by
          rw [List.getD_eq_getElem?_getD, List.getElem?_map, List.getElem?_eq_getElem hi]
          rfl
        rw [e1] at a3
        refine bd_pair x I3 H3 g3.sub a3 _ ?_
        rintro σ2 ⟨x1, y1, ax1, ay1, rfl⟩
        cases ax1
        cases ay1
        have hms := hm (hz2 (by omega))
        obtain ⟨m0, m1, rfl⟩ : ∃ m0 m1, ms = [m0, m1] := by
          match ms, hms with
          | [m0, m1], _ => exact ⟨m0, m1, rfl⟩
        have n3 := g3.out l _ n2 h2
        have h3 := g3.keep l _ n2 h2 (by simp)
        refine sq_int (K := K) (ed_op (ed_cb (ea_cons (ed_var rfl (.int ((n : Nat) : Int))) ea_nil) rc_int) (ed_var rfl (.int 2)) (rd_I (show (0 : Int) < 2 by decide))) g3.sub fun I4 H4 g4 => ?_
        have n4 := g4.out l _ n3 h3
        have h4 := g4.keep l _ n3 h3 (by simp)
        have fin : ∀ (j : Nat) (m : Int), ixN 2 (((n : Nat) : Int) % 2) = some j → j < 2 → ([V.int m0, V.int m1])[j]? = some (V.int m) → tAsg (tOp (rI0 fun i j => .int (i + j)) (tOp (rIxL K) (tVar 2) (tVar 5)) (tOp (rI CMul fun i j => .int (i * j)) (tVar 4) (tOp (rI0 fun i j => .int (i + j)) (tVar 3) (tC (.int 2))))) (gSub (tVar 2) (tVar 5) L2.rSetL) { nx := N, ct := N, bk := fun _ _ => True, rt := Q } [some (.ref a), some (.int 2), some (.ref l), some (.int ((n : Nat) : Int)), some (.int zs[n]), some (.int (((n : Nat) : Int) % 2))] H4 := by
          intro j m hj hj2 hjm
          refine sx_setX (K := K) (j := j) (i := 2) rfl h4 n4 (ed_var rfl (.int _)) hj (ed_op (ed_ixX (v := .int m) rfl h4 n4 (ed_var rfl (.int _)) (by unfold atI; rw [show (List.map V.int [m0, m1]).length = 2 from rfl, hj]; exact hjm) (.int m)) (ed_op (ed_var rfl (.int zs[n])) (ed_op (ed_var rfl (.int ((n : Nat) : Int))) ed_int rd_I0) (rd_I (.inr (by omega)))) rd_I0) g4.sub fun v I5 H5 g5 a5 h5 n5 => ?_
          cases a5
          refine hN _ I5 _ (((g4.tr g5).any).mutM (by simp) n5) ?_
          rcases (show j = 0 ∨ j = 1 by omega) with rfl | rfl
          · exact ⟨[_, m1], _, _, _, (((g2.tr g3).tr g4).tr g5).mut hl0 n5, n5, upd_same, Nat.le_refl _, fun _ => rfl, rfl⟩
          · exact ⟨[m0, _], _, _, _, (((g2.tr g3).tr g4).tr g5).mut hl0 n5, n5, upd_same, Nat.le_refl _, fun _ => rfl, rfl⟩
        rcases (show ((n : Nat) : Int) % 2 = 0 ∨ ((n : Nat) : Int) % 2 = 1 by omega) with e | e
        · exact fin 0 m0 (by rw [e]; rfl) (by decide) rfl
        · exact fin 1 m1 (by rw [e]; rfl) (by decide) rfl
      · rintro σ1 I2 H2 s2 ⟨ms, q3, q4, q5, g2, n2, h2, hm2, hm, rfl⟩
        obtain ⟨I4, g4, le, a4⟩ := know_l g2 hl0 h2 n2 (AtL.of_ints ms)
        exact ⟨_, rfl, q _ ms I4 H2 g4 a4 hm2⟩
    refine EvD.run (K := K) (d := .lst ((ns.take 2).map D.int)) ((ed_slS (ds := ns.map D.int) (lo := none) (hi := some 2) rfl hs as eo_none (eo_some (K := K) (ed_var rfl (.int 2)))).is ?_) s1 fun v I1 H1 g1 a1 => ?_
    · rw [show ((2 : Int)) = ((2 : Nat) : Int) from rfl, cutD_take, List.map_take]
    · cases a1 with
      | lst k1 k2 =>
        have e := AtL.ints _ k2
        subst e
        refine ⟨_, _, rfl, .inl (.of (g1.sub _ _ k1)), fun l hl => ⟨!((ns.take 2).map V.int).isEmpty, .inl ⟨_, .of upd_same, rfl⟩, ?_⟩⟩
        cases ns with
        | nil =>
          rw [if_neg (by decide)]
          refine ⟨by show 1 ≤ _; decide, fun l2 hl2 => ?_⟩
          have g3 : Gr [] I1 H1 I1 (upd (upd H1 l (.lst [])) l2 (.lst [.int 0])) := (Gr.side g1.sub hl).tr (.side (Gr.side (M := []) g1.sub hl).sub hl2)
          exact L0 l2 [0] I1 _ (g1.tr g3) (g1.tr (.side g1.sub hl) |>.back hl2) (sub_free (Gr.side (M := []) g1.sub hl).sub hl2) upd_same (by decide) (fun z => by simp at z)
        | cons n ns =>
          rw [if_pos (by rfl)]
          refine L0 l ((n :: ns).take 2) I1 _ (g1.tr (.side g1.sub hl)) (g1.back hl) (sub_free g1.sub hl) upd_same (by rw [List.length_take]; exact Nat.min_le_left _ _) fun z => ?_
          rw [List.length_take]
          omega
end
end K98

/-! S5LZip: list(zip(xs, ys)) of two lists: a new list of new pairs. -/
namespace K98
open PySem PySem.Spec PyProof.Rows L2
theorem zip_no_len : typeLookup (.type "zip") "__len__" = pure none := by rw [typeLookup_type, builtinLookup_eq_fast]; kernel_rfl
theorem zip_no_hint : typeLookup (.type "zip") "__length_hint__" = pure none := by rw [typeLookup_type, builtinLookup_eq_fast]; kernel_rfl
/-- the pairs made so far: new tuples at ts -/
structure ZPairs (xs ys : List V) (H0 H : Hp) (ts : List Addr) : Prop where
  up : ∀ b o, H0 b = some o → H b = some o
  new : ∀ t ∈ ts, H0 t = none
  at_ : ∀ (j : Nat) t, ts[j]? = some t → ∃ x y, xs[j]? = some x ∧ ys[j]? = some y ∧ H t = some (.tup [x, y])
  low : ∀ b o, H b = some o → b ∈ ts ∨ H0 b = some o
/-- the zip's own objects, k pairs out -/
def ZState (X : Cx) (a b z TI TO i1 i2 : Addr) (H : Hp) (h : Heap) (k : Nat) : Prop :=
  IsPair h TI (.ref i1) (.ref i2) ∧ h.IsListIter i1 a k ∧ h.IsListIter i2 b k ∧
  ((k = 0 ∧ IsZip h z TI TO .none ∧ ∃ x y, IsPair h TO x y) ∨ ∃ T f x y, PySem.IsZipHeld h z TI TO T f ∧ H T = some (.tup [x, y]))
section
variable {X : Cx} {pins : List (Addr × Obj)} {σ : L2.St} {A : Around} {R : Result → Shared → Prop} {S z TI TO i1 i2 a b : Addr} {xs ys : List V} {H0 : Hp} {res : Value}
theorem zloop (hh : A.handled = none) (D : ZipApart z TI TO i1 i2 a b) (hS : S ∉ [z, TI, TO, i1, i2]) (qa : SqL X.K H0 a xs) (qb : SqL X.K H0 b ys) (hl : ys.length = xs.length) (hz : xs.length ≤ 100000) {N : Nat} (hN : ∀ c ∈ [z, TI, TO, i1, i2], c < N)
    (hR : ∀ s' H' acc c ts, Inv X pins σ H' s' → ZPairs xs ys H0 H' ts → ts.length = xs.length → s'.heap.get? S = some { cls := .type "list", dict := none, data := .seq acc c, slots := #[] } → acc.toList = ts.map Value.ref → FpOk X pins H' S → R (.ok (.ret res)) s') :
    ∀ (m k : Nat) (s : Shared) (H : Hp) (acc : Array Value) (c : Nat) (ts : List Addr), N ≤ s.heap.objs.size → xs.length - k = m → k ≤ xs.length → Inv X pins σ H s → ZPairs xs ys H0 H ts → ts.length = k → ZState X a b z TI TO i1 i2 H s.heap k →
      s.heap.get? S = some { cls := .type "list", dict := none, data := .seq acc c, slots := #[] } → acc.toList = ts.map Value.ref → FpOk X pins H S → (∀ c ∈ [z, TI, TO, i1, i2], FpOk X pins H c) →
      codeAny (model X.prog X.w) A (.builtin "list.extend.loop" ⟨[.ref S, .ref z, res], []⟩) R s := by
  have sqUp : ∀ {H : Hp} {ts : List Addr}, ZPairs xs ys H0 H ts → SqL X.K H a xs ∧ SqL X.K H b ys := fun {H ts} Z => by
    refine ⟨?_, ?_⟩
    · rcases qa with (h | ⟨o, h⟩) | h
      · exact .inl (.inl (Z.up _ _ h))
      · exact .inl (.inr ⟨o, Z.up _ _ h⟩)
      · exact .inr h
    · rcases qb with (h | ⟨o, h⟩) | h
      · exact .inl (.inl (Z.up _ _ h))
      · exact .inl (.inr ⟨o, Z.up _ _ h⟩)
      · exact .inr h
  have nS : S ≠ z ∧ S ≠ TI ∧ S ≠ TO ∧ S ≠ i1 ∧ S ≠ i2 := by simpa using hS
  intro m
  induction m with
  | zero =>
    intro k s H acc c ts hNs hm hk I Z hts st hSo hacc fS fz
    have hkn : k = xs.length := by omega
    subst hkn
    obtain ⟨hTI, h1, h2, hcase⟩ := st
    obtain ⟨sa, sb⟩ := sqUp Z
    obtain ⟨its, rv, p, _⟩ := I.list sa
    obtain ⟨its2, rv2, p2, _⟩ := I.list sb
    have he : its.toArray[xs.length]? = none ∨ its2.toArray[xs.length]? = none := .inl (by have := rv.length; simp; omega)
    refine codeAny_builtin PySem.F.entry_extend_loop ?_
    rw [Around.under_plainId PySem.F.plain_extend_loop _]
    show wpAny _ A.in1 (pyNext (.ref z) >>= _) _ _ s
    have fin : ∀ h', (∀ c o, c ≠ z → c ≠ i1 → c ≠ i2 → c ≠ TO → s.heap.get? c = some o → h'.get? c = some o) → R (.ok (.ret res)) { s with heap := h' } := fun h' hk' => by
      have I2 : Inv X pins σ H { s with heap := h' } := I.turnedL (t' := s.toks) (ch := [z, TI, TO, i1, i2]) (fun c o hb q => hk' c o (fun q' => hb (by simp [q'])) (fun q' => hb (by simp [q'])) (fun q' => hb (by simp [q'])) (fun q' => hb (by simp [q'])) q) fz
      exact hR _ H acc c ts I2 Z hts (hk' S _ nS.1 nS.2.2.2.1 nS.2.2.2.2 nS.2.2.1 hSo) hacc fS
    rcases hcase with ⟨_, hz', x, y, hTO⟩ | ⟨T, f, x, y, hz', hT⟩
    · exact wpAny_bind (wpAny_pyNext_zip_end (A := A.in1) hh D hz' hTI hTO h1 h2 p.isList p2.isList he fun h' hk' => wpAny_pure (fin h' fun c o c1 c2 c3 c4 e => hk' c o c1 c4 c2 c3 e))
    · obtain ⟨itT, rT, ⟨oT, eT, _⟩, _⟩ := I.tuple (.of hT)
      exact wpAny_bind (PySem.wpAny_pyNext_zip_end_held (A := A.in1) hh D hz' eT hTI h1 h2 p.isList p2.isList he fun h' hk' => wpAny_pure (fin h' fun c o c1 c2 c3 c4 e => hk' c o c1 c2 c3 e))
  | succ m ih =>
    intro k s H acc c ts hNs hm hk I Z hts st hSo hacc fS fz
    have hlt : k < xs.length := by omega
    obtain ⟨hTI, h1, h2, hcase⟩ := st
    obtain ⟨sa, sb⟩ := sqUp Z
    obtain ⟨its, rv, p, _⟩ := I.list sa
    obtain ⟨its2, rv2, p2, _⟩ := I.list sb
    obtain ⟨u, hu, ru⟩ := rv.get (List.getElem?_eq_getElem hlt)
    obtain ⟨u2, hu2, ru2⟩ := rv2.get (List.getElem?_eq_getElem (by omega : k < ys.length))
    refine codeAny_builtin PySem.F.entry_extend_loop ?_
    rw [Around.under_plainId PySem.F.plain_extend_loop _]
    show wpAny _ A.in1 (pyNext (.ref z) >>= _) _ _ s
    have step : ∀ h', PySem.IsZipHeld h' z TI TO s.heap.objs.size false ∨ (∃ T f x y, PySem.IsZipHeld h' z TI TO T f ∧ H T = some (.tup [x, y])) → h'.IsListIter i1 a (k + 1) → h'.IsListIter i2 b (k + 1) → IsPair h' s.heap.objs.size u u2 → h'.objs.size = s.heap.objs.size + 1 →
        (∀ c o, c ≠ z → c ≠ TO → c ≠ i1 → c ≠ i2 → s.heap.get? c = some o → h'.get? c = some o) →
        wpAny (model X.prog X.w) A.in1 (updateSeq S (·.push (.ref s.heap.objs.size)) >>= fun _ => again (.builtin "list.extend.loop" ⟨[.ref S, .ref z, res], []⟩))
          (fun fin s' => match fin with | .done f => R (.ok f) s' | .again c' => c'.quiet = true ∧ codeAny (model X.prog X.w) A c' R s') (fun e s' => R (.error e) s') { s with heap := h' } := fun h' hz' h1' h2' hT hsz hk' => by
      have I1 : Inv X pins σ (upd H s.heap.objs.size (.tup [xs[k], ys[k]'(by omega)])) { s with heap := h' } :=
        I.turnedNew (t' := s.toks) (ch := [z, TI, TO, i1, i2]) (fun c o hb q => hk' c o (fun q' => hb (by simp [q'])) (fun q' => hb (by simp [q'])) (fun q' => hb (by simp [q'])) (fun q' => hb (by simp [q'])) q) fz (Nat.le_refl _)
          ⟨by show 2 ≤ sizeLine; decide, [u, u2], .cons ru (.cons ru2 .nil), ⟨_, hT, rfl, _, rfl⟩⟩
      have hSl : S < s.heap.objs.size := Heap.lt_size hSo
      have nn := I.hok.fresh (Nat.le_refl s.heap.objs.size)
      have hS' := hk' S _ nS.1 nS.2.2.1 nS.2.2.2.1 nS.2.2.2.2 hSo
      have fS1 : FpOk X pins (upd H s.heap.objs.size (.tup [xs[k], ys[k]'(by omega)])) S := ⟨by rw [upd_ne (Nat.ne_of_lt hSl)]; exact fS.1, fS.2⟩
      have hacl : acc.size = k := by
        rw [← Array.length_toList, hacc, List.length_map, hts]
      have hT' : s.heap.objs.size ≠ S := Nat.ne_of_gt hSl
      have oth : ∀ b o, b ≠ S → h'.get? b = some o → (h'.update S (Obj.mapSeq (·.push (.ref s.heap.objs.size)))).get? b = some o := fun b o hb e => (Heap.get?_update_other _ _ (Ne.symm hb)).trans e
      refine wpAny_bind (wpAny_updateSeq (s := { s with heap := h' }) hS' rfl (wpAny_pure ⟨plainId_quiet PySem.F.plain_extend_loop _, ?_⟩) (by rw [hacl, sizeLine_eq]; omega) (by show (acc.push _).size ≤ sizeLine + 1; rw [Array.size_push, hacl, sizeLine_eq]; omega))
      have I2 := I1.turnedL (h' := h'.update S (Obj.mapSeq (·.push (.ref s.heap.objs.size)))) (t' := s.toks) (ch := [S]) (fun b o hb e => oth b o (fun q => hb (by simp [q])) e) (fun b hb => by rw [List.mem_singleton.mp hb]; exact fS1)
      refine ih (k + 1) { s with heap := h'.update S (Obj.mapSeq (·.push (.ref s.heap.objs.size))) } _ (acc.push (.ref s.heap.objs.size)) _ (ts ++ [s.heap.objs.size]) ?_ (by omega) hlt I2 ⟨fun b o e => ?_, fun t ht => ?_, fun j t e => ?_, fun b o e => ?_⟩ (by rw [List.length_append, hts]; rfl) ⟨oth _ _ (Ne.symm nS.2.1) (hk' TI _ D.TIz D.TITO D.TIi1 D.TIi2 hTI), h1'.at fun o q => oth _ o (Ne.symm nS.2.2.2.1) q, h2'.at fun o q => oth _ o (Ne.symm nS.2.2.2.2) q, .inr ?_⟩ (Heap.get?_update_self _ hS' rfl) (by rw [Array.toList_push, hacc, List.map_append]; rfl) fS1 fun c hc => ?_
      · show N ≤ (h'.update S _).objs.size
        rw [Heap.size_update, hsz]
        omega
      · have := Z.up b o e
        rw [upd_ne (fun q => by rw [q, nn] at this; cases this)]
        exact this
      · rcases List.mem_append.mp ht with ht | ht
        · exact Z.new t ht
        · rw [List.mem_singleton.mp ht]
          cases q : H0 s.heap.objs.size with
          | none => rfl
          | some o =>
            have := Z.up _ o q
            rw [nn] at this
            cases this
      · by_cases hj : j < ts.length
        · rw [List.getElem?_append_left hj] at e
          obtain ⟨x, y, e1, e2, e3⟩ := Z.at_ j t e
          exact ⟨x, y, e1, e2, by rw [upd_ne (fun q => by rw [q, nn] at e3; cases e3)]; exact e3⟩
        · rw [List.getElem?_append_right (by omega)] at e
          have hj2 : j - ts.length = 0 := by
            have := (List.getElem?_eq_some_iff.mp e).1
            simp at this
            omega
          rw [hj2] at e
          have ejk : j = k := by omega
          cases e
          subst ejk
          exact ⟨_, _, List.getElem?_eq_getElem hlt, List.getElem?_eq_getElem (by omega), upd_same⟩
      · by_cases q : b = s.heap.objs.size
        · exact .inl (by simp [q])
        · rw [upd_ne q] at e
          rcases Z.low b o e with h | h
          · exact .inl (List.mem_append_left _ h)
          · exact .inr h
      · rcases hz' with hz' | ⟨T, f, x, y, hz', hTT⟩
        · exact ⟨_, false, _, _, oth _ _ (Ne.symm nS.1) hz', upd_same⟩
        · exact ⟨T, f, x, y, oth _ _ (Ne.symm nS.1) hz', by rw [upd_ne (fun q => by rw [q, nn] at hTT; cases hTT)]; exact hTT⟩
      · have hcl : c < s.heap.objs.size := Nat.lt_of_lt_of_le (hN c hc) hNs
        exact ⟨by rw [upd_ne (Nat.ne_of_lt hcl)]; exact (fz c hc).1, (fz c hc).2⟩
    rcases hcase with ⟨_, hz', x, y, hTO⟩ | ⟨T, f, x, y, hz', hT⟩
    · exact wpAny_bind (wpAny_pyNext_zip_item (A := A.in1) D hz' hTI hTO h1 h2 p.isList p2.isList (by simpa using hu) (by simpa using hu2) fun h' z' TO' h1' h2' hT hsz hk' => step h' (.inl z') h1' h2' hT hsz hk')
    · obtain ⟨itT, rT, ⟨oT, eT, _⟩, _⟩ := I.tuple (.of hT)
      exact wpAny_bind (PySem.wpAny_pyNext_zip_item_held (A := A.in1) D hz' eT hTI h1 h2 p.isList p2.isList (by simpa using hu) (by simpa using hu2) fun h' z' h1' h2' hT2 hsz hk' => step h' (.inr ⟨T, true, x, y, z', hT⟩) h1' h2' hT2 hsz fun c o c1 c2 c3 c4 e => hk' c o c1 c3 c4 e)
theorem mem5 {n c : Nat} (h : (c : Addr) ∈ ([n + 4, n + 2, n + 3, n, n + 1] : List Addr)) : c = n + 4 ∨ c = n + 2 ∨ c = n + 3 ∨ c = n ∨ c = n + 1 := by simpa using h
theorem mem5lt {n c : Nat} (h : c = n + 4 ∨ c = n + 2 ∨ c = n + 3 ∨ c = n ∨ c = n + 1) : c < n + 5 := by omega
/-- list(zip(a, b)), lists of one length -/
def tListZip (K : PySem.W.Frag) (ta : TA) : TE := fun σ H Q => ta σ H fun vs H1 => ∃ a b xs ys, vs = [.ref a, .ref b] ∧ SqL K H1 a xs ∧ SqL K H1 b ys ∧ ys.length = xs.length ∧ xs.length ≤ 100000 ∧
  ∀ p ts H2, ZPairs xs ys H1 H2 ts → ts.length = xs.length → H2 p = none → H1 p = none → Q (.ref p) (upd H2 p (.lst (ts.map V.ref)))
theorem pe_listZip {e e2 : Expr} {ta : TA} {p1 p2 pos pos2 : Pos} (hc : X.calm = true) (hg : Gl X "list") (hm : X.mg "list" = none) (hg2 : Gl X "zip") (hm2 : X.mg "zip" = none) (hv : bootBuiltins "list" = some (.type "list")) (ha : PA X [e, e2] ta)
    (hs : starEach [e, e2] X.env = (false, eval e X.env) :: starEach [e2] X.env := by rfl) (hpl : (backTo pos2 (starEach [e2] X.env)).any (·.1) = false := by rfl)
    (hs1 : starEach [.Call (.Name "zip" p2) [e, e2] [] pos2] X.env = (false, eval (.Call (.Name "zip" p2) [e, e2] [] pos2) X.env) :: starEach [] X.env := by rfl) :
    PE X (.Call (.Name "list" p1) [.Call (.Name "zip" p2) [e, e2] [] pos2] [] pos) (tListZip X.K ta) := by
  refine ⟨fun pins s σ H Q I h => ?_⟩
  refine wpAny_Call_Name_kw (ld_blt I hg hm hv ?_)
  refine PyProof.Rows.callWith_type1 ?_ hs1 rfl
  rw [hs1]
  show wpAny _ _ (spliced ((false, eval (.Call (.Name "zip" p2) [e, e2] [] pos2) X.env) :: backTo pos (starEach [] X.env))) _ _ s
  refine Calls.spliced_cons ?_
  refine Call_ (ld_blt I hg2 hm2 PyProof.Rows.boot_zip (PyProof.Rows.callWith_type1 (thn (ha.run pos2 pins s σ H _ I h) fun us s1 ⟨vs, H1, I1, r1, a, b, xs, ys, ex, hqx, hqy, hl, hz, q⟩ => ?_) hs hpl))
  subst ex
  cases r1 with
  | cons r rr =>
    cases rr with
    | cons r' rr =>
      cases rr
      cases r
      cases r'
      obtain ⟨its, rv, p1, _⟩ := I1.list hqx
      obtain ⟨its2, rv2, p2, _⟩ := I1.list hqy
      have la : a < s1.heap.objs.size := p1.lt
      have lb : b < s1.heap.objs.size := p2.lt
      refine call_zip_2 p1.isList p2.isList fun h' hz' hTI hTO h1 h2 hsz hk => ?_
      refine Calls.spliced_nil ?_
      have I2 : Inv X pins σ H1 { s1 with heap := h' } := I1.kept (t' := s1.toks) hk
      have D := PySem.W.ktu_apart s1.heap.objs.size a b la lb
      refine callType_codes (Q₁ := fun obj s₁ => obj = .ref h'.objs.size ∧ s₁ = { s1 with heap := h'.push { cls := .type "list", data := .seq #[] } }) PySem.F.called_list (PySem.F.typeCall_list_1 _) PySem.F.entry_list_init (code_list_new _ ⟨rfl, rfl⟩) fun obj s₁ h₁ => ?_
      obtain ⟨rfl, rfl⟩ := h₁
      have hS : (h'.push { cls := .type "list", data := .seq #[] }).get? h'.objs.size = some { cls := .type "list", data := .seq #[] } := Heap.get?_push_size _ rfl
      refine ⟨⟨_, hS, rfl⟩, PySem.F.args_list_init_2 _ _, ?_⟩
      show wpAny _ X.A.in1.in1 (do let old ← Builtin.List.listItems (.ref h'.objs.size); Builtin.List.listUpdate (.ref h'.objs.size) (fun _ => #[]); letGo old.toList.reverse; Builtin.List.listExtendWith (.ref h'.objs.size) (.ref (s1.heap.objs.size + 4)) .none) _ _ _
      refine wpAny_bind ?_
      unfold Builtin.List.listItems
      refine wpAny_bind (wpAny_seqItems hS rfl (wpAny_pure ?_))
      show wpAny _ X.A.in1.in1 (updateSeq h'.objs.size (fun _ => #[]) >>= fun _ => letGo (#[] : Array Value).toList.reverse >>= fun _ => Builtin.List.listExtendWith (.ref h'.objs.size) (.ref (s1.heap.objs.size + 4)) .none) _ _ _
      refine wpAny_bind (wpAny_updateSeq hS rfl ?_)
      have hS2 := Heap.get?_update_self (Obj.mapSeq (fun _ => (#[] : Array Value))) hS rfl
      refine wpAny_bind (wpAny_letGo ?_)
      unfold Builtin.List.listExtendWith
      have up : ∀ (h : Heap) (f : Obj → Obj), (∀ b o, h'.get? b = some o → h.get? b = some o) → ∀ b o, h'.get? b = some o → (h.update h'.objs.size f).get? b = some o := fun h f q b o e =>
        (Heap.get?_update_other _ _ (Ne.symm (Nat.ne_of_lt (Heap.lt_size e)))).trans (q b o e)
      have k1 : ∀ b o, h'.get? b = some o → (h'.push { cls := .type "list", data := .seq #[] }).get? b = some o := fun b o e => Heap.get?_push_of_some _ e
      have k2 := up _ (Obj.mapSeq (fun _ => (#[] : Array Value))) k1
      have zty : ∀ {h : Heap} {sh : Shared}, sh.heap = h → (∀ b o, h'.get? b = some o → h.get? b = some o) → sh.TypeIs (.ref (s1.heap.objs.size + 4)) "zip" := fun {h sh} e q => ⟨_, by rw [e]; exact q _ _ hz', rfl⟩
      have hSz : h'.objs.size ≠ s1.heap.objs.size + 4 := by rw [hsz]; exact Nat.ne_of_gt (Nat.lt_succ_self _)
      refine wpAny_bind (wpAny_typeOf (zty rfl k2) ?_)
      have e1 : Builtin.List.listSameRef (.ref h'.objs.size) (.ref (s1.heap.objs.size + 4)) = false := by simp [Builtin.List.listSameRef, hSz]
      have e2 : (Value.type "zip" == Value.type "list") = false := by decide
      have e3 : (Value.type "zip" == Value.type "tuple") = false := by decide
      simp only [e1, e2, e3, Bool.or_false, Bool.false_eq_true, if_false]
      refine wpAny_bind (wpAny_pyIter_zip (s := { s1 with heap := _ }) (k2 _ _ hz') ?_)
      refine wpAny_bind (wpAny_holding ?_)
      unfold Builtin.List.listLengthHint
      refine wpAny_bind (wpAny_specialOf (zty rfl k2) zip_no_len ?_)
      show wpAny _ X.A.in1.in1 (specialOf (Value.ref (s1.heap.objs.size + 4)) (Str.ofString "__length_hint__") >>= _) _ _ _
      refine wpAny_bind (wpAny_specialOf (zty rfl k2) zip_no_hint ?_)
      refine wpAny_pure ?_
      show wpAny _ X.A.in1.in1 (rule "list.extend.makes-room" >>= fun _ => Builtin.List.listTouch (.ref h'.objs.size) >>= fun _ =>
        again (.builtin "list.extend.loop" ⟨[.ref h'.objs.size, .ref (s1.heap.objs.size + 4), .none], []⟩)) _ _ _
      refine wpAny_bind (wpAny_rule ?_)
      refine wpAny_bind ?_
      show wpAny _ X.A.in1.in1 (updateSeq h'.objs.size (·.push .none) >>= fun _ => updateSeq h'.objs.size (·.pop)) _ _ _
      refine wpAny_bind (wpAny_updateSeq hS2 rfl ?_)
      have hS3 := Heap.get?_update_self (Obj.mapSeq (·.push Value.none)) hS2 rfl
      refine wpAny_updateSeq (hz := by seq_fits) hS3 rfl ?_
      have hS4 := Heap.get?_update_self (Obj.mapSeq (·.pop)) hS3 rfl
      have k4 := up _ (Obj.mapSeq (·.pop)) (up _ (Obj.mapSeq (·.push Value.none)) k2)
      have I4 : Inv X pins σ H1 { s1 with heap := _ } := I2.kept (t' := s1.toks) k4
      have fpz : ∀ c, s1.heap.objs.size ≤ c → FpOk X pins H1 c := fun c hle => I1.fpOk hle (I1.hok.fresh hle)
      refine wpAny_pure ⟨plainId_quiet PySem.F.plain_extend_loop _, ?_⟩
      refine zloop (X := X) (pins := pins) (σ := σ) (A := X.A.in1) (H0 := H1) (xs := xs) (ys := ys) (N := s1.heap.objs.size + 5) (I1.ok.hd hc) D ?_ hqx hqy hl hz ?_ ?_ xs.length 0 _ H1 #[] _ [] ?_ (by omega) (Nat.zero_le _) I4 ⟨fun _ _ e => e, fun _ h => (nomatch h), fun _ _ e => by simp at e, fun _ _ e => .inr e⟩ rfl ⟨k4 _ _ hTI, h1.at fun o q => k4 _ o q, h2.at fun o q => k4 _ o q, .inl ⟨rfl, k4 _ _ hz', _, _, k4 _ _ hTO⟩⟩ hS4 rfl (fpz _ (by rw [hsz]; omega)) fun c hcm => ?_
      · intro hm
        have z := (mem5 hm)
        rw [hsz] at z
        omega
      · intro c hcm
        exact mem5lt (mem5 hcm)
      · intro s' H' acc cc ts I5 Z hts hSo hacc fS
        refine ⟨rfl, .ref _, upd H' h'.objs.size (.lst (ts.map V.ref)), ?_, rfl, q _ ts H' Z hts fS.1 ?_⟩
        · refine I5.take (t' := s'.toks) (fun _ _ _ e => e) fS ⟨by rw [List.length_map, hts, sizeLine_eq]; omega, acc.toList, cc, ?_, by rw [Array.toArray_toList]; exact hSo⟩
          rw [hacc]
          clear hts hacc Z
          induction ts with
          | nil => exact .nil
          | cons t ts ih => exact .cons rfl ih
        · exact I1.hok.fresh (by rw [hsz]; omega)
      · show s1.heap.objs.size + 5 ≤ _
        simp only [Heap.size_update, Heap.size_push, hsz]
        omega
      · have z := (mem5 hcm)
        exact fpz c (by show s1.heap.objs.size ≤ (c : Nat); omega)
end
end K98

/-! S8e: == and != of lists, dict(pairs), list(zip), growths beside several objects. -/
namespace K98
open PySem PySem.Spec PyProof.Rows L2
def okS (a : List Str) : Prop := ∀ x ∈ a, PyData.strOk x = true
theorem shaped_strs : ∀ {a : List Str}, okS a → PyData.canLayAll0 (a.map PyData.str) = true ∧ PyData.depthAll (a.map PyData.str) = 0
  | [], _ => ⟨rfl, rfl⟩
  | x :: a, h => by
    obtain ⟨h1, h2⟩ := shaped_strs (a := a) fun y hy => h y (List.mem_cons_of_mem _ hy)
    refine ⟨?_, ?_⟩
    · show (PyData.strOk x && PyData.canLayAll0 (a.map PyData.str)) = true
      rw [h x List.mem_cons_self, h1]
      rfl
    · show max 0 (PyData.depthAll (a.map PyData.str)) = 0
      rw [h2]
      rfl
theorem shaped_ints : ∀ (a : List Int), PyData.canLayAll0 (a.map PyData.int) = true ∧ PyData.depthAll (a.map PyData.int) = 0
  | [] => ⟨rfl, rfl⟩
  | x :: a => by
    obtain ⟨h1, h2⟩ := shaped_ints a
    refine ⟨?_, ?_⟩
    · show (true && PyData.canLayAll0 (a.map PyData.int)) = true
      rw [h1]
      rfl
    · show max 0 (PyData.depthAll (a.map PyData.int)) = 0
      rw [h2]
      rfl
def datT (p : List Int) : PyData := .list (p.map PyData.int)
theorem shaped_papers : ∀ (a : List (List Int)), PyData.canLayAll0 (a.map datT) = true ∧ PyData.depthAll (a.map datT) ≤ 1
  | [] => ⟨rfl, Nat.zero_le _⟩
  | x :: a => by
    obtain ⟨h1, h2⟩ := shaped_papers a
    obtain ⟨h3, h4⟩ := shaped_ints x
    refine ⟨?_, ?_⟩
    · show (PyData.canLayAll0 (x.map PyData.int) && PyData.canLayAll0 (a.map datT)) = true
      rw [h1, h3]
      rfl
    · show max (PyData.depthAll (x.map PyData.int) + 1) (PyData.depthAll (a.map datT)) ≤ 1
      rw [h4]
      omega
theorem eqv_ints : ∀ (a : List Int), PyData.eqvAll (a.map PyData.int) (a.map PyData.int) = true
  | [] => rfl
  | x :: a => by
    show ((x == x) && PyData.eqvAll _ _) = true
    rw [beq_self_eq_true, eqv_ints a]
    rfl
theorem eqv_papers : ∀ (a : List (List Int)), PyData.eqvAll (a.map datT) (a.map datT) = true
  | [] => rfl
  | x :: a => by
    show (PyData.eqvAll (x.map PyData.int) (x.map PyData.int) && PyData.eqvAll (a.map datT) (a.map datT)) = true
    rw [eqv_ints, eqv_papers a]
    rfl
section
variable {K : PySem.W.Frag} {σ : L2.St} {I H I' H' I1 H1 : Hp} {ta tb te : TE} {d e : D} {u : Addr} {M : List Addr}
theorem dp_strs : ∀ (a : List Str) {vs : List V}, AtL K I vs (a.map D.str) → DpAll K H vs (a.map PyData.str)
  | [], _, h => by cases h; exact .nil
  | x :: a, _, h => by
    cases h with
    | cons h1 h2 =>
      cases h1
      exact .cons (.str x) (dp_strs a h2)
theorem dp_ints : ∀ (a : List Int) {vs : List V}, AtL K I vs (a.map D.int) → DpAll K H vs (a.map PyData.int)
  | [], _, h => by cases h; exact .nil
  | x :: a, _, h => by
    cases h with
    | cons h1 h2 =>
      cases h1
      exact .cons (.int x) (dp_ints a h2)
theorem dp_papers (s : Sub I H) : ∀ (a : List (List Int)) {vs : List V}, AtL K I vs (a.map encT) → DpAll K H vs (a.map datT)
  | [], _, h => by cases h; exact .nil
  | x :: a, _, h => by
    cases h with
    | cons h1 h2 =>
      cases h1 with
      | lst k1 k2 => exact .cons (.lst (.of (s _ _ k1)) (dp_ints x k2)) (dp_papers s a h2)
theorem eqv_nil (a : List Str) : PyData.eqv (.list (a.map PyData.str)) (.list []) = a.isEmpty := by
  cases a <;> rfl
theorem rd_eqNil {a : List Str} (ok : okS a) : RvD K (rEqD K) (.lst (a.map D.str)) (.lst []) (.bl a.isEmpty) := fun x y I H s hx hy Q q => by
  cases hx with
  | lst k1 k2 =>
    cases hy with
    | lst k3 k4 =>
      cases k4
      refine ⟨.list (a.map PyData.str), .list [], .lst (.of (s _ _ k1)) (dp_strs a k2), .lst (.of (s _ _ k3)) .nil, ?_, by decide, ?_⟩
      · obtain ⟨h1, h2⟩ := shaped_strs ok
        show (PyData.canLayAll0 (a.map PyData.str) && decide (PyData.depthAll (a.map PyData.str) + 1 ≤ 64)) = true
        rw [h1, h2]
        rfl
      · rw [eqv_nil]
        exact q _ I H (.refl s) (.bl _)
theorem rd_neNil {a : List Str} (ok : okS a) : RvD K (rNeD K) (.lst (a.map D.str)) (.lst []) (.bl (!a.isEmpty)) := fun x y I H s hx hy Q q => by
  cases hx with
  | lst k1 k2 =>
    cases hy with
    | lst k3 k4 =>
      cases k4
      refine ⟨.list (a.map PyData.str), .list [], .lst (.of (s _ _ k1)) (dp_strs a k2), .lst (.of (s _ _ k3)) .nil, ?_, by decide, ?_⟩
      · obtain ⟨h1, h2⟩ := shaped_strs ok
        show (PyData.canLayAll0 (a.map PyData.str) && decide (PyData.depthAll (a.map PyData.str) + 1 ≤ 64)) = true
        rw [h1, h2]
        rfl
      · rw [eqv_nil]
        exact q _ I H (.refl s) (.bl _)
def nePapers (a b : List (List Int)) : Bool := !PyData.eqv (.list (a.map datT)) (.list (b.map datT))
theorem nePapers_self (a : List (List Int)) : nePapers a a = false := by
  unfold nePapers
  show (!PyData.eqvAll (a.map datT) (a.map datT)) = false
  rw [eqv_papers]
  rfl
theorem rd_nePapers {a b : List (List Int)} : RvD K (rNeD K) (.lst (a.map encT)) (.lst (b.map encT)) (.bl (nePapers a b)) := fun x y I H s hx hy Q q => by
  have sh : ∀ a : List (List Int), SeqAt.shaped (.list (a.map datT)) = true := fun a => by
    obtain ⟨h1, h2⟩ := shaped_papers a
    show (PyData.canLayAll0 (a.map datT) && decide (PyData.depthAll (a.map datT) + 1 ≤ 64)) = true
    rw [h1, decide_eq_true (by omega)]
    rfl
  cases hx with
  | lst k1 k2 =>
    cases hy with
    | lst k3 k4 => exact ⟨.list (a.map datT), .list (b.map datT), .lst (.of (s _ _ k1)) (dp_papers s a k2), .lst (.of (s _ _ k3)) (dp_papers s b k4), sh a, sh b, q _ I H (.refl s) (.bl _)⟩
/-! ### dict(pairs) -/
theorem pairs_ex : ∀ (kds : List (Key × D)) {vs : List V}, AtL K I vs (kds.map fun kv => D.tup [keyD kv.1, kv.2]) → ∃ (ps : List Addr) (kvs : List (Key × V)), vs = ps.map V.ref ∧ Paired (fun p kv => SqT K I p [kV kv.1, kv.2]) ps kvs ∧ AtK K I kvs kds
  | [], _, h => by cases h; exact ⟨[], [], rfl, .nil, .nil⟩
  | (k, d) :: kds, _, h => by
    cases h with
    | cons h1 h2 =>
      obtain ⟨ps, kvs, rfl, hp, ha⟩ := pairs_ex kds h2
      cases h1 with
      | @tup a xs _ k1 k2 =>
        obtain ⟨x, y, rfl, ax, ay⟩ := k2.two
        have ex : x = kV k := by
          cases k with
          | inl i =>
            cases ax
            rfl
          | inr z =>
            cases ax
            rfl
        subst ex
        exact ⟨a :: ps, (k, y) :: kvs, rfl, .cons k1 hp, .cons ay ha⟩
theorem paired_le {ps : List Addr} {kvs : List (Key × V)} (e : Le I H) (h : Paired (fun p kv => SqT K I p [kV kv.1, kv.2]) ps kvs) : Paired (fun p kv => SqT K H p [kV kv.1, kv.2]) ps kvs := by
  induction h with
  | nil => exact .nil
  | cons a t ih => exact .cons (e.t a) ih
theorem rc_dictP {kds : List (Key × D)} (hn : (kds.map (·.1)).Nodup) : RcD K (fun xs H Q => ∃ (a : Addr) (ps : List Addr) (kvs : List (Key × V)), xs = [.ref a] ∧ SqL K H a (ps.map V.ref) ∧ Paired (fun p kv => SqT K H p [kV kv.1, kv.2]) ps kvs ∧
    ∀ p, H p = none → Q (.ref p) (upd H p (.dK (mergeK [] kvs)))) [.lst (kds.map fun kv => D.tup [keyD kv.1, kv.2])] (.dic kds) := fun xs I H s as Q q => by
  obtain ⟨v, rfl, av⟩ := as.one
  cases av with
  | @lst a ys _ k1 k2 =>
    obtain ⟨ps, kvs, rfl, hp, ha⟩ := pairs_ex kds k2
    refine ⟨a, ps, kvs, rfl, .of (s _ _ k1), paired_le (sub_le s) hp, fun p hpn => ?_⟩
    rw [mergeK_self (by rw [ha.keys]; exact hn)]
    exact q _ (upd I p (.dK kvs)) _ (.new s hpn) (.dic (.inl upd_same) (AtK.le (upd_le (sub_free s hpn)) _ ha))
/-! ### list(zip(xs, ys)) -/
theorem ed_listZip {ta : TA} {ds es : List D} (h : EvA K ta σ I H [.lst ds, .lst es]) (hl : es.length = ds.length) (hz : ds.length ≤ 100000) : EvD K (tListZip K ta) σ I H (.lst ((ds.zip es).map fun z => D.tup [z.1, z.2])) := fun I1 H1 g Q q =>
  h I1 H1 g _ fun vs I2 H2 g2 as => by
    obtain ⟨v, w, rfl, av, aw⟩ := as.two
    cases av with
    | @lst a xs _ k1 k2 =>
      cases aw with
      | @lst b ys _ k3 k4 =>
        refine ⟨a, b, xs, ys, rfl, .of (g2.sub _ _ k1), .of (g2.sub _ _ k3), by rw [k4.length, k2.length]; exact hl, by rw [k2.length]; exact hz, fun p ts H3 Z hts hp3 hp2 => ?_⟩
        let I3 : Hp := fun c => if c ∈ ts then H3 c else I2 c
        have n2 : ∀ t ∈ ts, I2 t = none := fun t ht => by
          cases q2 : I2 t with
          | none => rfl
          | some o =>
            have := g2.sub _ _ q2
            rw [Z.new t ht] at this
            cases this
        have g3 : Gr [] I2 H2 I3 H3 := by
          refine ⟨fun c o q => ?_, fun c o q => ?_, fun c o n q => ?_, fun c o n q _ => Z.up _ _ q⟩
          · show (if c ∈ ts then H3 c else I2 c) = some o
            rw [if_neg fun hc => by rw [n2 c hc] at q; cases q]
            exact q
          · have q : (if c ∈ ts then H3 c else I2 c) = some o := q
            by_cases hc : c ∈ ts
            · rw [if_pos hc] at q
              exact q
            · rw [if_neg hc] at q
              exact Z.up _ _ (g2.sub _ _ q)
          · show (if c ∈ ts then H3 c else I2 c) = none
            rw [if_neg fun hc => by rw [Z.new c hc] at q; cases q]
            exact n
        have np : p ∉ ts := fun hc => by
          obtain ⟨j, hj⟩ := List.mem_iff_getElem?.mp hc
          obtain ⟨x, y, _, _, e⟩ := Z.at_ j p hj
          rw [hp3] at e
          cases e
        have ni : I3 p = none := by
          show (if p ∈ ts then H3 p else I2 p) = none
          rw [if_neg np]
          exact sub_free g2.sub hp2
        have k2' := k2.gr g3
        have k4' := k4.gr g3
        have all : ∀ (js : Nat) (ts2 : List Addr) (d2 e2 : List D), (∀ (j : Nat) t, ts2[j]? = some t → ∃ dd ee x y, d2[j]? = some dd ∧ e2[j]? = some ee ∧ At K I3 x dd ∧ At K I3 y ee ∧ I3 t = some (.tup [x, y])) → ts2.length = d2.length → e2.length = d2.length → AtL K I3 (ts2.map V.ref) ((d2.zip e2).map fun z => D.tup [z.1, z.2]) := by
          intro _ ts2
          induction ts2 with
          | nil =>
            intro d2 e2 _ h1 h2
            cases d2 with
            | nil => exact .nil
            | cons _ _ => cases h1
          | cons t ts2 ih =>
            intro d2 e2 hh h1 h2
            cases d2 with
            | nil => cases h1
            | cons dd d2 =>
              cases e2 with
              | nil => cases h2
              | cons ee e2 =>
                obtain ⟨dd', ee', x, y, q1, q2, ax, ay, qt⟩ := hh 0 t rfl
                cases q1
                cases q2
                refine .cons (.tup (.of qt) (.cons ax (.cons ay .nil))) (ih d2 e2 (fun j t hj => ?_) (by simpa using h1) (by simpa using h2))
                obtain ⟨a1, a2, a3, a4, a5, a6, r⟩ := hh (j + 1) t (by simpa using hj)
                exact ⟨a1, a2, a3, a4, by simpa using a5, by simpa using a6, r⟩
        refine q _ (upd I3 p (.lst (ts.map V.ref))) _ (g2.tr ((g3.mut hp2 ni).know hp2 upd_same ni)) (at_lst (all 0 ts ds es (fun j t hj => ?_) (by rw [hts, k2.length]) hl) ni)
        obtain ⟨x, y, hx, hy, et⟩ := Z.at_ j t hj
        have hj2 : j < ds.length := by
          rw [← k2.length]
          exact (List.getElem?_eq_some_iff.mp hx).1
        obtain ⟨x', hx', ax⟩ := k2'.get (List.getElem?_eq_getElem hj2)
        obtain ⟨y', hy', ay⟩ := k4'.get (List.getElem?_eq_getElem (by omega : j < es.length))
        rw [hx] at hx'
        rw [hy] at hy'
        cases hx'
        cases hy'
        refine ⟨_, _, x, y, List.getElem?_eq_getElem hj2, List.getElem?_eq_getElem (by omega), ax, ay, ?_⟩
        show (if t ∈ ts then H3 t else I2 t) = _
        rw [if_pos (List.mem_of_getElem? hj)]
        exact et
/-! ### growths that change several objects -/
theorem UrnAt.grM {m : Nat} (h : UrnAt u m I H) (g : Gr M I H I' H') (n : u ∉ M) : UrnAt u m I' H' := by
  obtain ⟨q, n0, n1, n2, h1, h2, h3⟩ := h
  exact ⟨g.out _ _ q h1, n0, n1, n2, g.keep _ _ q h1 n, h2, h3⟩
theorem Brd.grM {b pl : Addr} {B : Bd} (h : Brd K b pl B I H) (g : Gr M I H I' H') (n1 : b ∉ M) (n2 : pl ∉ M) : Brd K b pl B I' H' := by
  obtain ⟨dx, v1, v2, v3, v4, ps, h, k1, k3⟩ := h
  exact ⟨dx, v1, v2, v3, v4, ps, ⟨h.ne, g.out _ _ h.nb h.hb, g.out _ _ h.npl h.hp, g.keep _ _ h.nb h.hb n1, g.keep _ _ h.npl h.hp n2, h.a1.gr g, h.a2.gr g, h.a3.gr g, h.a4.gr g, h.lp⟩, k1.gr g, k3.gr g⟩
/-- the objects of M are new, or u -/
theorem Gr.newM (g : Gr [u] I H I1 H1) (g2 : Gr M I1 H1 I' H') (hu : ∃ o, H1 u = some o) (hm : ∀ x ∈ M, x = u ∨ H x = none) : Gr [u] I H I' H' :=
  ⟨fun x o q => g2.ext x o (g.ext x o q), g2.sub, fun x o n q => by
    by_cases c : x = u
    · subst c
      obtain ⟨w, hw⟩ := hu
      exact g2.out x w (g.out x o n q) hw
    · exact g2.out x o (g.out x o n q) (g.keep x o n q (by simpa using c)), fun x o n q c => by
    have c' : x ≠ u := by simpa using c
    refine g2.keep x o (g.out x o n q) (g.keep x o n q c) fun hx => ?_
    rcases hm x hx with e | e
    · exact c' e
    · rw [q] at e
      cases e⟩
end
end K98

/-! S8p: the plain law of the loop: what idle says and what is seen. -/
namespace K98
open PySem PySem.Spec PyProof.Rows L2
def NAMES : List Str := ["zz", "b", "a", "web"]
structure SetUp (names : List Str) (B : Bd) : Prop where
  nm : namesOf B = names
  nd : names.Nodup
  len : names.length ≤ 4
  hl : B.house.length ≤ 2
  hs : Small B.house
  rl : ∀ p ∈ B.reps, p.2.length ≤ 2 ∧ Small p.2
theorem repOf_mem : ∀ {r : List (Str × List (Bool × Int))} {n : Str}, n ∈ r.map (·.1) → (n, repOf r n) ∈ r
  | [], n, h => nomatch h
  | (m, ss) :: r, n, h => by
    by_cases c : m = n
    · subst c
      simp [repOf, List.find?_cons]
    · have h2 : n ∈ r.map (·.1) := by
        rcases List.mem_cons.mp h with e | h
        · exact absurd e.symm c
        · exact h
      have e2 : repOf ((m, ss) :: r) n = repOf r n := by simp [repOf, List.find?_cons, c]
      rw [e2]
      exact List.mem_cons_of_mem _ (repOf_mem h2)
theorem repOf_last {r : List (Str × List (Bool × Int))} {n : Str} {ss : List (Bool × Int)} (h : n ∉ r.map (·.1)) : repOf (r ++ [(n, ss)]) n = ss := by
  have e : (r ++ [(n, ss)]).find? (fun p => decide (p.1 = n)) = some (n, ss) := by
    rw [List.find?_append, List.find?_eq_none.mpr]
    · simp
    · intro p hp z
      exact h (List.mem_map.mpr ⟨p, hp, of_decide_eq_true z⟩)
  unfold repOf
  rw [e]
  rfl
theorem valD_gen (enc : List (Bool × Int) → D) : ∀ {r : List (Str × List (Bool × Int))} {n : Str}, n ∈ r.map (·.1) → valD (r.map fun p => (.inr p.1, enc p.2)) (.inr n) = some (enc (repOf r n))
  | [], n, h => nomatch h
  | (m, ss) :: r, n, h => by
    by_cases c : m = n
    · subst c
      simp [valD, repOf, List.find?_cons]
    · have h2 : n ∈ r.map (·.1) := by
        rcases List.mem_cons.mp h with e | h
        · exact absurd e.symm c
        · exact h
      have ih := valD_gen enc h2
      have e1 : valD (((m, ss) :: r).map fun p => (.inr p.1, enc p.2)) (.inr n) = valD (r.map fun p => (.inr p.1, enc p.2)) (.inr n) := by
        simp [valD, List.find?_cons, c]
      have e2 : repOf ((m, ss) :: r) n = repOf r n := by simp [repOf, List.find?_cons, c]
      rw [e1, e2]
      exact ih
theorem small_app {a b : List (Bool × Int)} (h1 : Small a) (h2 : Small b) : Small (a ++ b) := fun s hs => by
  rcases List.mem_append.mp hs with h | h
  · exact h1 s h
  · exact h2 s h
section
variable {names : List Str} {B : Bd} (S : SetUp names B)
include S
theorem SetUp.wh {n : Str} (h : n ∈ names) : Small (wh B n) ∧ (K98.wh B n).length ≤ 4 := by
  rw [← S.nm] at h
  obtain ⟨h1, h2⟩ := S.rl _ (repOf_mem h)
  refine ⟨small_app S.hs h2, ?_⟩
  unfold K98.wh
  rw [List.length_append]
  have := S.hl
  have h1 : (repOf B.reps n).length ≤ 2 := h1
  omega
theorem SetUp.ok : BdOk B := by
  refine ⟨by rw [S.nm]; exact S.nd, by rw [S.nm]; have := S.len; omega, fun n hn => ?_⟩
  rw [S.nm] at hn
  have := (S.wh hn).2
  omega
def farsOf (names : List Str) (t : Str) : List Str := names.filter fun o => !decide (o = t)
theorem SetUp.others {t : Str} (h : t ∈ names) : (farsOf names t).filter (fun o => seenIn (K98.wh B t) (K98.wh B o)) = othersOf B t := by
  unfold farsOf othersOf
  rw [List.filter_filter, S.nm]
  refine List.filter_congr fun o ho => ?_
  rw [seenIn_within (S.wh h).1 (S.wh ho).1, Bool.and_comm]
  rfl
theorem SetUp.idle_ne {t : Str} (hi : idleB B t = true) : othersOf B t ≠ [] := fun z => by
  unfold idleB at hi
  rw [z] at hi
  cases hi
theorem SetUp.not_idle {t : Str} (hi : idleB B t = false) {o : Str} (ho : o ∈ othersOf B t) : inW B o t = true ∧ ltS o t = false := by
  unfold idleB at hi
  rw [List.any_map] at hi
  have z := List.any_eq_false.mp hi o ho
  have z : ¬ ((!inW B o t || ltS o t) = true) := z
  cases h1 : inW B o t <;> cases h2 : ltS o t <;> simp_all
theorem SetUp.early {t : Str} (hi : idleB B t = false) : (othersOf B t).filter (fun o => ltS o t) = [] := by
  rw [List.filter_eq_nil_iff]
  intro o ho
  rw [(S.not_idle hi ho).2]
  decide
theorem SetUp.rest {t : Str} (h : t ∈ names) (hi : idleB B t = false) : (othersOf B t).filter (fun o => nePapers (seen (K98.wh B o)) (seen (K98.wh B t))) = [] := by
  rw [List.filter_eq_nil_iff]
  intro o ho
  have hm : o ∈ names := by
    have := (List.mem_filter.mp ho).1
    rwa [S.nm] at this
  have h1 := (S.not_idle hi ho).1
  have h2 := (List.mem_filter.mp ho).2
  rw [Bool.and_eq_true] at h2
  have e : seen (K98.wh B o) = seen (K98.wh B t) := by
    refine seen_eq (S.wh hm).1 (S.wh h).1 ?_ ?_
    · rw [seenIn_within (S.wh hm).1 (S.wh h).1]
      exact h1
    · rw [seenIn_within (S.wh h).1 (S.wh hm).1]
      exact h2.2
  rw [e, nePapers_self]
  decide
theorem SetUp.idle_mem {t : Str} (h : t ∈ names) : (idleOf B).contains t = idleB B t := by
  have hm : t ∈ sortS (namesOf B) := (sortS_perm _).mem_iff.mpr (by rw [S.nm]; exact h)
  rw [Bool.eq_iff_iff, List.contains_iff_mem]
  unfold idleOf
  rw [List.mem_filter]
  exact ⟨fun z => z.2, fun z => ⟨hm, z⟩⟩
end
theorem NAMES_ok : okS NAMES := by
  intro x hx
  have : x = "zz" ∨ x = "b" ∨ x = "a" ∨ x = "web" := by simpa [NAMES] using hx
  rcases this with rfl | rfl | rfl | rfl <;> decide +kernel
theorem NAMES_nd : NAMES.Nodup := by decide
def linesD (r : List (Str × List (Bool × Int))) : List (Key × D) := r.map fun p => (.inr p.1, .tup (p.2.map strideD))
theorem linesD_keys (r : List (Str × List (Bool × Int))) : (linesD r).map (·.1) = (r.map (·.1)).map Sum.inr := by
  unfold linesD
  rw [List.map_map, List.map_map]
  rfl
end K98

/-! S8f: the loop of the law, phase by phase. -/
namespace K98
open PySem PySem.Spec PyProof.Rows L2
section
variable {K : PySem.W.Frag} {σ : L2.St} {I H I' H' I1 H1 : Hp} {u : Addr} {m : Nat} {Dn : Ends} {w : TS}
/-- plate, house, lines = Board(), line(urn, 2, 7), {} -/
theorem ph1 (hv : σ[0]? = some (some (.ref u))) (s : Sub I H) (hU : UrnAt u m I H) (hm : m < 800000)
    (k : ∀ b pl ll v hs I1 H1, Gr [u] I H I1 H1 → H b = none → H pl = none → H ll = none → b ≠ ll → pl ≠ ll → UrnAt u (m + 9) I1 H1 → Brd K b pl Bd0 I1 H1 → I1 ll = none → H1 ll = some (.dK []) → At K I1 v (.tup (hs.map strideD)) → hs.length ≤ 2 → Small hs →
      w Dn (((σ.set 2 (some (.ref b))).set 3 (some v)).set 4 (some (.ref ll))) H1) :
    tSeq (tAsg (tTup (tCons (tMake 1051 (bInitSp K) [] E0 tNil) (tCons (tCall (lineSp K) [] E0 (tCons (tVar 0) (tCons (tC (.int 2)) (tCons (tC (.int 7)) tNil)))) (tCons tDNewK tNil)))) (gTup K 3 (gCons (gName 2) (gCons (gName 3) (gCons (gName 4) gNil))))) w Dn σ H := by
  intro b dx nb ndx ne
  have g0 : Gr [] I H I (upd (upd H dx (.own b)) b (.ins 1051 dx [])) := (Gr.side (M := []) s ndx).mut nb (sub_free s nb)
  refine ⟨I, b, dx, rfl, g0.sub, sub_free s nb, upd_same, fun I2 H2 pl g2 hpl hB => ⟨rfl, ?_⟩⟩
  have hplH : H pl = none := g0.back hpl
  have g02 : Gr [] I H I2 H2 := by
    refine ⟨fun a o z => g2.ext a o z, g2.sub, fun a o n z => g2.out a o n (g0.keep a o n z (by simp)), fun a o n z _ => g2.keep a o n (g0.keep a o n z (by simp)) ?_⟩
    intro hm
    have e : a = b := by simpa using hm
    rw [e, nb] at z
    cases z
  have hU2 := hU.gr g02
  obtain ⟨o, ho⟩ := hU.some
  have nub : u ≠ b := fun z => by rw [z, nb] at ho; cases ho
  have nup : u ≠ pl := fun z => by rw [z, hplH] at ho; cases ho
  refine ⟨.ref u, hv, I2, u, m, rfl, g02.sub, hU2, hm, fun v hs I3 H3 g3 hU3 av hl hsm => ?_⟩
  have hB3 := hB.grM g3 (by simpa using Ne.symm nub) (by simpa using Ne.symm nup)
  intro ll hll
  have g4 : Gr [] I3 H3 I3 (upd H3 ll (.dK [])) := .side g3.sub hll
  refine ⟨by show 3 ≤ _; decide, fun pt hpt => ?_⟩
  have g5 := g4.tr (.side (o := .tup [.ref b, v, .ref ll]) g4.sub hpt)
  have g03 := (g02.any (M := [u])).two g3 hU2.some
  have hll2 : H2 ll = none := by
    cases q1 : H2 ll with
    | none => rfl
    | some o =>
      exfalso
      have nul : ll ≠ u := fun z => by
        obtain ⟨o', h'⟩ := hU3.some
        rw [z, h'] at hll
        cases hll
      cases q2 : I2 ll with
      | some x =>
        have := g3.sub _ _ (g3.ext _ _ q2)
        rw [hll] at this
        cases this
      | none =>
        have := g3.keep _ _ q2 q1 (by simpa using nul)
        rw [hll] at this
        cases this
  have nlt : ll ≠ pt := fun z => by
    rw [← z, upd_same] at hpt
    cases hpt
  refine ⟨pt, _, rfl, .of upd_same, rfl, _, _, rfl, _, _, rfl, _, _, rfl, rfl, k b pl ll v hs I3 _ (g03.onE g5 hU3.some) nb hplH (g02.back hll2) ?_ ?_ (hU3.gr g5) (hB3.gr g5) (sub_free g3.sub hll) (by rw [upd_ne nlt, upd_same]) (av.gr g5) hl hsm⟩
  · intro z
    obtain ⟨dx, v1, v2, v3, v4, ps, h, _⟩ := hB3
    have := h.hb
    rw [z, hll] at this
    cases this
  · intro z
    obtain ⟨dx, v1, v2, v3, v4, ps, h, _⟩ := hB3
    have := h.hp
    rw [z, hll] at this
    cases this
/-- names = [..][:1 + take(urn, 4)] -/
theorem ph3 (hv : σ[0]? = some (some (.ref u))) (s : Sub I H) (hU : UrnAt u m I H) (hm : m < 1000000)
    (k : ∀ v (n : Nat) I1 H1, Gr [u] I H I1 H1 → UrnAt u (m + 1) I1 H1 → n ≤ 4 → At K I1 v (.lst ((NAMES.take n).map D.str)) → w Dn (σ.set 5 (some v)) H1) :
    tSeq (tAsg (L2.tSl (rSlL K) (tLst (tCons (tC (.str "zz")) (tCons (tC (.str "b")) (tCons (tC (.str "a")) (tCons (tC (.str "web")) tNil))))) tNoPart (tPart (tOp (rI0 fun i j => .int (i + j)) (tC (.int 1)) (tCall (takeSp K) [] E0 (tCons (tVar 0) (tCons (tC (.int 4)) tNil)))))) (gName 5)) w Dn σ H := by
  have e0 : EvD K (tLst (tCons (tC (.str "zz")) (tCons (tC (.str "b")) (tCons (tC (.str "a")) (tCons (tC (.str "web")) tNil))))) σ I H (.lst (NAMES.map D.str)) := ed_lst (ea_cons ed_str (ea_cons ed_str (ea_cons ed_str (ea_cons ed_str ea_nil)))) (show 4 ≤ 100000 by decide)
  unfold tSeq tAsg L2.tSl
  refine e0.run s fun v I1 H1 g1 a1 => ?_
  refine ⟨.ref u, hv, I1, u, m, 4, rfl, g1.sub, hU.gr g1, hm, by decide, by decide, fun r I2 H2 g2 hU2 r0 r4 => ⟨1, r, rfl, rfl, 1 + r, rfl, ?_⟩⟩
  have g02 := (g1.any (M := [u])).two g2 (hU.gr g1).some
  have a2 := a1.gr g2
  cases a2 with
  | @lst a xs _ k1 k2 =>
    refine ⟨a, xs, rfl, .of (g2.sub _ _ k1), fun p hp => ?_⟩
    have hr : (1 + r) = (((1 + r).toNat : Nat) : Int) := by omega
    refine k (.ref p) (1 + r).toNat (upd I2 p (.lst (cutV xs none (some (1 + r))))) _ (g02.onE (.new g2.sub hp) hU2.some) (hU2.gr (.new g2.sub hp)) (by omega) (at_lst ?_ (sub_free g2.sub hp))
    have e : cutD (NAMES.map D.str) none (some (((1 + r).toNat : Nat) : Int)) = (NAMES.take (1 + r).toNat).map D.str := by rw [cutD_take, List.map_take]
    rw [← e, ← hr]
    unfold cutV cutD
    rw [k2.length]
    exact (k2.drop _).take _
abbrev SL (u : Addr) (q1 q2 q3 q4 q5 q6 q7 q8 q9 q10 q11 q12 q13 q14 q15 : Option V) : L2.St := [some (.ref u), q1, q2, q3, q4, q5, q6, q7, q8, q9, q10, q11, q12, q13, q14, q15, none, none, none]
abbrev tLine (K : PySem.W.Frag) : TE := tCall (lineSp K) [] E0 (tCons (tVar 0) (tCons (tC (.int 2)) (tCons (tC (.int 7)) tNil)))
def Lin (K : PySem.W.Frag) (ll : Addr) (r : List (Str × List (Bool × Int))) (I H : Hp) : Prop := I ll = none ∧ ∃ kvs, H ll = some (.dK kvs) ∧ AtK K I kvs (linesD r)
theorem Lin.grM {ll : Addr} {r : List (Str × List (Bool × Int))} {M : List Addr} (h : Lin K ll r I H) (g : Gr M I H I' H') (n : ll ∉ M) : Lin K ll r I' H' := by
  obtain ⟨h1, kvs, h2, h3⟩ := h
  exact ⟨g.out _ _ h1 h2, kvs, g.keep _ _ h1 h2 n, h3.gr g⟩
theorem Brd.ex {b pl : Addr} {B : Bd} (h : Brd K b pl B I H) : (∃ o, H b = some o) ∧ ∃ o, H pl = some o := by
  obtain ⟨dx, v1, v2, v3, v4, ps, h, _⟩ := h
  exact ⟨⟨_, h.hb⟩, ⟨_, h.hp⟩⟩
theorem tr4 {b pl ll : Addr} {B : Bd} {r : List (Str × List (Bool × Int))} (g : Gr [u, b, pl, ll] I H I1 H1) (g2 : Gr [u, b, pl, ll] I1 H1 I' H') (hU : UrnAt u m I1 H1) (hB : Brd K b pl B I1 H1) (hL : Lin K ll r I1 H1) : Gr [u, b, pl, ll] I H I' H' := g.trans g2 fun x hx _ => by
  simp only [List.mem_cons, List.not_mem_nil, or_false] at hx
  rcases hx with e | e | e | e
  · rw [e]; exact hU.some
  · rw [e]; exact hB.ex.1
  · rw [e]; exact hB.ex.2
  · rw [e]
    obtain ⟨_, kvs, h, _⟩ := hL
    exact ⟨_, h⟩
theorem Gr.incl {M M' : List Addr} (g : Gr M I H I' H') (h : ∀ x ∈ M, x ∈ M') : Gr M' I H I' H' := ⟨g.ext, g.sub, g.out, fun a o n q c => g.keep a o n q fun z => c (h a z)⟩
/-- for tag in names: lines[tag] = line(urn, 2, 7); plate[tag] = host(lines[tag]) -/
theorem ph4 {b pl ll : Addr} {hs : List (Bool × Int)} {names : List Str} {np : Nat} {nm : V} {q1 q3 q6 q7 q8 q9 q10 q11 q12 q13 q14 q15 : Option V} (s : Sub I H) (hU : UrnAt u m I H) (hm : m < 700000) (hB : Brd K b pl ⟨[], hs, [], np⟩ I H) (hnp : np < 1000) (hL : Lin K ll [] I H)
    (nub : u ≠ b) (nup : u ≠ pl) (nul : u ≠ ll) (nbl : b ≠ ll) (npl : pl ≠ ll) (hnd : names.Nodup) (hlen : names.length ≤ 4) (an : At K I nm (.lst (names.map D.str)))
    (k : ∀ q6 reps np I1 H1, Gr [u, b, pl, ll] I H I1 H1 → UrnAt u (m + 36) I1 H1 → Brd K b pl ⟨[], hs, reps, np⟩ I1 H1 → Lin K ll reps I1 H1 → reps.map (·.1) = names → (∀ p ∈ reps, p.2.length ≤ 2 ∧ Small p.2) → w Dn (SL u q1 (some (.ref b)) q3 (some (.ref ll)) (some nm) q6 q7 q8 q9 q10 q11 q12 q13 q14 q15) H1) :
    tSeq (tFor (iList K (tVar 5)) (gName 6) (tSeq (sDPut (tVar 4) (tVar 6) (tLine K)) (tAsg (tCall (pureSp K R_law_host) [] E0 (tCons (tDGet (tVar 4) (tVar 6)) tNil)) (gSub (tVar 2) (tVar 6) (rOwnSet 1051 (brdM K R_Board_setitem)))))) w Dn
      (SL u q1 (some (.ref b)) q3 (some (.ref ll)) (some nm) q6 q7 q8 q9 q10 q11 q12 q13 q14 q15) H := by
  refine sq_for (K := K) (M := [u, b, pl, ll]) names D.str (fun i σ1 I1 H1 => ∃ q6 reps np', Gr [u, b, pl, ll] I H I1 H1 ∧ UrnAt u (m + 9 * i) I1 H1 ∧ Brd K b pl ⟨[], hs, reps, np'⟩ I1 H1 ∧ np' < 1000 + i ∧ Lin K ll reps I1 H1 ∧ reps.map (·.1) = names.take i ∧ (∀ p ∈ reps, p.2.length ≤ 2 ∧ Small p.2) ∧
      σ1 = SL u q1 (some (.ref b)) q3 (some (.ref ll)) (some nm) q6 q7 q8 q9 q10 q11 q12 q13 q14 q15) (ei_list (ed_var rfl an)) s (fun I1 H1 g1 => ⟨_, [], np, g1.any, hU.gr g1, hB.gr g1, hnp, hL.grM g1 (by simp), rfl, fun _ h => (nomatch h), rfl⟩) ?_ ?_
  · rintro i tag x σ1 I1 H1 hp ⟨q6, reps, np', g1, hU1, hB1, hnp1, hL1, hr1, hs1, rfl⟩ I2 H2 g2 a2 N hN
    refine bd_name x I2 H2 g2.sub a2 _ ?_
    rintro σ2 ⟨x1, ax1, rfl⟩
    cases ax1
    have hi : i < 4 := by
      have := (List.getElem?_eq_some_iff.mp hp).1
      omega
    have htn : tag ∉ reps.map (·.1) := by
      rw [hr1]
      intro z
      have e2 : names.take (i + 1) = names.take i ++ [tag] := take_succ hp
      have hn2 : (names.take (i + 1)).Nodup := hnd.sublist (List.take_sublist _ _)
      rw [e2, List.nodup_append] at hn2
      exact hn2.2.2 tag z tag (by simp) rfl
    have hrl : reps.length ≤ 4 := by
      have := congrArg List.length hr1
      rw [List.length_map, List.length_take] at this
      omega
    have hrnd : (reps.map (·.1)).Nodup := by
      rw [hr1]
      exact hnd.sublist (List.take_sublist _ _)
    have hU2 := hU1.gr g2
    have hB2 := hB1.gr g2
    have hL2 := hL1.grM g2 (by simp)
    refine ⟨.ref u, rfl, I2, u, m + 9 * i, rfl, g2.sub, hU2, by omega, fun v ss I3 H3 g3 hU3 av hsl hss => ?_⟩
    have hB3 := hB2.grM g3 (by simpa using Ne.symm nub) (by simpa using Ne.symm nup)
    have hL3 := hL2.grM g3 (by simpa using Ne.symm nul)
    obtain ⟨nl3, kvs, hl3, al3⟩ := hL3
    have hkl : kvs.length ≤ 4 := by
      rw [al3.length]
      unfold linesD
      rw [List.length_map]
      exact hrl
    refine ⟨.ref ll, rfl, .str tag, rfl, ll, _, rfl, .inl ⟨kvs, .inr tag, hl3, rfl, Nat.lt_of_le_of_lt hkl (by decide), rfl⟩, ?_⟩
    have g4 : Gr [ll] I3 H3 I3 (upd H3 ll (.dK (putK kvs (.inr tag) v))) := (Gr.refl g3.sub).mutM (by simp) nl3
    have hU4 := hU3.grM g4 (by simpa using nul)
    have hB4 := hB3.grM g4 (by simpa using nbl) (by simpa using npl)
    have al4 : AtK K I3 (putK kvs (.inr tag) v) (linesD (reps ++ [(tag, ss)])) := by
      have z := al3.put av (.inr tag)
      rw [putD_new] at z
      · unfold linesD at z ⊢
        rw [List.map_append]
        exact z
      · rw [linesD_keys]
        intro z
        obtain ⟨y, hy, e⟩ := List.mem_map.mp z
        exact htn (Sum.inr.inj e ▸ hy)
    have hval : valD (linesD (reps ++ [(tag, ss)])) (.inr tag) = some (.tup (ss.map strideD)) := by
      have z := valD_gen (fun ss => .tup (ss.map strideD)) (r := reps ++ [(tag, ss)]) (n := tag) (by simp)
      rw [repOf_last htn] at z
      exact z
    refine sx_brdSet (K := K) (b := b) (pl := pl) (B := ⟨[], hs, reps, np'⟩) (B' := ⟨[], hs, reps ++ [(tag, ss)], np' + 1⟩) (dk := .str tag) (dv := scriptD ss) rfl hB4 (ed_call (ea_cons (ed_dgetX (i := 4) rfl upd_same nl3 al4 (ed_var rfl (.str tag)) hval) ea_nil) ⟨ss, rfl, fun t ht => (hss t ht).1, by omega, rfl⟩) (ed_var rfl (.str tag)) ⟨tag, ss, rfl, hrnd, htn, by show reps.length < 1000; omega, by show np' < 90000; omega, rfl⟩ g4.sub fun I5 H5 g5 hB5 => ?_
    have hU5 := hU4.grM g5 (by simp [nub, nup])
    have hL5 : Lin K ll (reps ++ [(tag, ss)]) I5 H5 := Lin.grM ⟨nl3, _, upd_same, al4⟩ g5 (by simp [Ne.symm nbl, Ne.symm npl])
    have gA : Gr [u, b, pl, ll] I2 H2 I3 H3 := g3.incl (by simp)
    have gB : Gr [u, b, pl, ll] I3 H3 I3 (upd H3 ll (.dK (putK kvs (.inr tag) v))) := g4.incl (by simp)
    have gC : Gr [u, b, pl, ll] I3 (upd H3 ll (.dK (putK kvs (.inr tag) v))) I5 H5 := g5.incl (by simp)
    have gAB := tr4 gA gB hU3 hB3 ⟨nl3, kvs, hl3, al3⟩
    have gABC := tr4 (r := reps ++ [(tag, ss)]) gAB gC hU4 hB4 ⟨nl3, _, upd_same, al4⟩
    refine hN _ I5 H5 gABC ⟨_, reps ++ [(tag, ss)], np' + 1, tr4 (tr4 g1 g2.any hU1 hB1 hL1) gABC hU2 hB2 hL2, hU5.le (by omega), hB5, by omega, hL5, ?_, fun p hp => ?_, rfl⟩
    · rw [List.map_append, hr1, take_succ hp]
      rfl
    · rcases List.mem_append.mp hp with h | h
      · exact hs1 p h
      · rw [List.mem_singleton.mp h]
        exact ⟨hsl, hss⟩
  · rintro σ1 I1 H1 s1 ⟨q6, reps, np', g1, hU1, hB1, hnp1, hL1, hr1, hs1, rfl⟩
    rw [List.take_length] at hr1
    exact k q6 reps np' I1 H1 g1 (hU1.le (by omega)) hB1 hL1 hr1 hs1
theorem paper_len : ∀ p ∈ papers, p.length < 1000 := by
  intro p hp
  have h : (papers.all fun p => decide (p.length < 1000)) = true := by decide +kernel
  exact of_decide_eq_true (List.all_eq_true.mp h p hp)
theorem papers_len : papers.length = 72 := by decide +kernel
abbrev tDictP (K : PySem.W.Frag) : List V → Hp → VK → Prop := fun xs H Q => ∃ (a : Addr) (ps : List Addr) (kvs : List (Key × V)), xs = [.ref a] ∧ SqL K H a (ps.map V.ref) ∧ Paired (fun p kv => SqT K H p [kV kv.1, kv.2]) ps kvs ∧ ∀ p, H p = none → Q (.ref p) (upd H p (.dK (mergeK [] kvs)))
def seenD (names : List Str) (B : Bd) : List (Key × D) := names.map fun t => (.inr t, .lst ((seen (wh B t)).map encT))
theorem seenD_val {names : List Str} {B : Bd} {t : Str} (h : t ∈ names) : valD (seenD names B) (.inr t) = some (.lst ((seen (wh B t)).map encT)) := wholesD_val names (fun t => .lst ((seen (wh B t)).map encT)) h
theorem seen_len (ss : List (Bool × Int)) : (seen ss).length = 72 := by
  unfold seen
  rw [List.length_map, papers_len]
/-- seen = dict([(tag, [left(house + lines[tag], own) for own in papers]) for tag in names]) -/
theorem ph5 {names : List Str} {B : Bd} {hv nm pp lv : V} {q2 q6 q7 q9 q10 q11 q12 q13 q14 q15 q1 : Option V} (S : SetUp names B) (s : Sub I H) (ah : At K I hv (.tup (B.house.map strideD))) (al : At K I lv (.dic (linesD B.reps))) (an : At K I nm (.lst (names.map D.str))) (ap : At K I pp (.lst (papers.map encT)))
    (k : ∀ v I1 H1, Gr [] I H I1 H1 → At K I1 v (.dic (seenD names B)) → w Dn (SL u q1 q2 (some hv) (some lv) (some nm) q6 q7 (some pp) (some v) q10 q11 q12 q13 q14 q15) H1) :
    tSeq (tAsg (tCB (tDictP K) (tCons (tLc (iList K (tVar 5)) (gName 6) tYes (tTup (tCons (tVar 6) (tCons (tLc (iList K (tVar 8)) (gName 16) tYes (tCall (pureSp K R_law_left) [] E0 (tCons (tOp (rCatA K) (tVar 3) (tDGet (tVar 4) (tVar 6))) (tCons (tVar 16) tNil))) [16]) tNil))) [6]) tNil)) (gName 9)) w Dn
      (SL u q1 q2 (some hv) (some lv) (some nm) q6 q7 (some pp) q9 q10 q11 q12 q13 q14 q15) H := by
  have hkn : ((seenD names B).map (·.1)).Nodup := by
    unfold seenD
    rw [List.map_map]
    exact nodup_inr S.nd
  refine sq_asg (K := K) (ed_cb (ea_cons ((ed_lcNY (K := K) names D.str (fun t => D.tup [.str t, .lst ((seen (wh B t)).map encT)]) (ei_list (ed_var rfl an)) (by have := S.len; omega) (fun _ => rfl) fun t ht y I1 H1 g1 ay => ?_).is ?_) ea_nil) (rc_dictP hkn)) s fun v I1 H1 g1 a1 => k v I1 H1 g1 a1
  · cases ay
    have hw := S.wh ht
    have htm : t ∈ B.reps.map (·.1) := by
      have := S.nm
      unfold namesOf at this
      rw [this]
      exact ht
    refine ed_tup (ea_cons (ed_var rfl (.str t)) (ea_cons ((ed_lcNY (K := K) papers encT (fun p => encT (left (wh B t) p)) (ei_list (ed_var rfl (ap.gr g1))) (by rw [papers_len]; decide) (fun _ => rfl) fun p hp z I2 H2 g2 az => ?_).is ?_) ea_nil)) (by simp)
    · have g12 := g1.tr g2
      refine ed_call (ea_cons ((ed_op (ed_var rfl (ah.gr g12)) (ed_dget (ed_var rfl (al.gr g12)) (ed_var rfl (.str t)) (valD_gen (fun ss => .tup (ss.map strideD)) htm)) (rd_catA ?_)).is (congrArg D.tup (List.map_append).symm)) (ea_cons (ed_var rfl az) ea_nil)) ⟨wh B t, p, rfl, paper_len p hp, rfl⟩
      have h4 := hw.2
      unfold wh at h4
      rw [List.length_append] at h4
      rw [List.length_map, List.length_map]
      omega
    · unfold seen
      rw [List.map_map]
      rfl
  · unfold seenD
    rw [List.map_map]
    rfl
def pairE (z : List Int × List Int) : D := .tup [encT z.1, encT z.2]
theorem zip_encT (a b : List (List Int)) : ((a.map encT).zip (b.map encT)).map (fun z => D.tup [z.1, z.2]) = (a.zip b).map pairE := by
  rw [List.zip_map, List.map_map]
  rfl
abbrev tInt : List V → Hp → VK → Prop := fun xs H Q => (∃ i, xs = [.int i] ∧ Q (.int i) H) ∨ ∃ k, xs = [.bl k] ∧ Q (.int (if k then 1 else 0)) H
abbrev tLtS : R2 := fun x y H Q => ∃ i j, x = .str i ∧ y = .str j ∧ Q (.bl (decide (i.cps.toList < j.cps.toList))) H
/-- the others of a tag, and the four tests -/
theorem ph6 {names : List Str} {B : Bd} {nm sv iv : V} {q1 q2 q3 q4 q6 q8 q10 q11 q12 q13 q14 q15 : Option V} (S : SetUp names B) (hok : okS names) (s : Sub I H) (an : At K I nm (.lst (names.map D.str))) (av : At K I sv (.dic (seenD names B))) (ai : At K I iv (.tup ((idleOf B).map D.str)))
    (k : ∀ q6 q10 q11 q12 q13 q14 q15 I1 H1, Gr [] I H I1 H1 → Dn.nx (SL u q1 q2 q3 q4 (some nm) q6 (some iv) q8 (some sv) q10 q11 q12 q13 q14 q15) H1) :
    tFor (iList K (tVar 5)) (gName 6) (tSeq (tAsg (tLst tNil) (gName 10)) (tSeq (tFor (iList K (tLc (iList K (tVar 5)) (gName 16) (tTest (tOp rNe (tVar 16) (tVar 6))) (tVar 16) [16])) (gName 11)
        (tSeq (tAsg (tListZip K (tCons (tDGet (tVar 9) (tVar 6)) (tCons (tDGet (tVar 9) (tVar 11)) tNil))) (gName 12))
          (tAsg (tOp rCat (tVar 10) (tOp rRep (tLst (tCons (tVar 11) tNil)) (tCB tInt (tCons (tCB (rAll K) (tCons (tLc (iList K (tVar 12)) (gTup K 2 (gCons (gName 17) (gCons (gName 18) gNil))) tYes (tCall (pureSp K R_law_all_in) [] E0 (tCons (tVar 17) (tCons (tVar 18) tNil))) [17, 18]) tNil)) tNil)))) (gName 10))))
      (tSeq (tPar 13 14 (tCons (tOp (rIn K false) (tVar 6) (tVar 7)) (tCons (tLc (iList K (tVar 10)) (gName 16) (tTest (tOp tLtS (tVar 16) (tVar 6))) (tVar 16) [16]) tNil)))
      (tSeq (tIfS (tOr (tAnd (tB (tVar 13)) (tTest (tOp (rEqD K) (tVar 10) (tLst tNil)))) (tAnd (tNot (tB (tVar 13))) (tTest (tOp (rNeD K) (tVar 14) (tLst tNil))))) (tRet (tC (.bl false))) tNext)
      (tSeq (tAsg (tLc (iList K (tVar 10)) (gName 16) (tTest (tOp (rNeD K) (tDGet (tVar 9) (tVar 16)) (tDGet (tVar 9) (tVar 6)))) (tVar 16) [16]) (gName 15))
        (tIfS (tAnd (tTest (tOp (rIn K true) (tVar 6) (tVar 7))) (tTest (tOp (rNeD K) (tVar 15) (tLst tNil)))) (tRet (tC (.bl false))) tNext)))))) Dn
      (SL u q1 q2 q3 q4 (some nm) q6 (some iv) q8 (some sv) q10 q11 q12 q13 q14 q15) H := by
  have okF : ∀ (p : Str → Bool) (l : List Str), okS l → okS (l.filter p) := fun p l h x hx => h x (List.mem_filter.mp hx).1
  refine sx_for (K := K) (M := []) names D.str (fun i σ1 I1 H1 => ∃ q6 q10 q11 q12 q13 q14 q15, Gr [] I H I1 H1 ∧ σ1 = SL u q1 q2 q3 q4 (some nm) q6 (some iv) q8 (some sv) q10 q11 q12 q13 q14 q15) (ei_list (ed_var rfl an)) s (fun I1 H1 g1 => ⟨_, _, _, _, _, _, _, g1, rfl⟩) ?_ ?_
  · rintro i t x σ1 I1 H1 hp ⟨q6, q10, q11, q12, q13, q14, q15, g1, rfl⟩ I2 H2 g2 a2 N hN
    have ht := List.mem_of_getElem? hp
    refine bd_name x I2 H2 g2.sub a2 _ ?_
    rintro σ2 ⟨x1, ax1, rfl⟩
    cases ax1
    have g12 := g1.tr g2
    refine sq_asg (K := K) (d := .lst []) (ed_lst ea_nil (by simp)) g2.sub fun v3 I3 H3 g3 a3 => ?_
    have g13 := g12.tr g3
    have fl : (farsOf names t).length ≤ 4 := by
      have := List.length_filter_le (fun o => !decide (o = t)) names
      have := S.len
      unfold farsOf
      omega
    refine sq_for (K := K) (M := []) (farsOf names t) D.str (fun j σ1 I4 H4 => ∃ v q11 q12, Gr [] I3 H3 I4 H4 ∧ At K I4 v (.lst ((((farsOf names t).take j).filter fun o => seenIn (wh B t) (wh B o)).map D.str)) ∧ σ1 = SL u q1 q2 q3 q4 (some nm) (some (.str t)) (some iv) q8 (some sv) (some v) q11 q12 q13 q14 q15)
      (ei_list (ed_lcN (K := K) names D.str (fun o => !decide (o = t)) D.str (ei_list (ed_var rfl (an.gr g13))) (by have := S.len; omega) fun o ho y I4 H4 g4 ay => ?_)) g3.sub (fun I4 H4 g4 => ⟨v3, _, _, g4, a3.gr g4, rfl⟩) ?_ ?_
    · cases ay
      exact ⟨rfl, eb_test (K := K) (ed_op (ed_var rfl (.str o)) (ed_var rfl (.str t)) rd_neS), fun _ => ed_var rfl (.str o)⟩
    · rintro j o y σ1 I4 H4 hpo ⟨v, q11, q12, g4, a4, rfl⟩ I5 H5 g5 a5 N2 hN2
      have hof := List.mem_of_getElem? hpo
      have ho : o ∈ names := (List.mem_filter.mp hof).1
      refine bd_name y I5 H5 g5.sub a5 _ ?_
      rintro σ3 ⟨y1, ay1, rfl⟩
      cases ay1
      have g35 := g4.tr g5
      have g15 := g13.tr g35
      refine sq_asg (K := K) ((ed_listZip (K := K) (ea_cons (ed_dget (ed_var rfl (av.gr g15)) (ed_var rfl (.str t)) (seenD_val ht)) (ea_cons (ed_dget (ed_var rfl (av.gr g15)) (ed_var rfl (.str o)) (seenD_val ho)) ea_nil)) (by rw [List.length_map, List.length_map, seen_len, seen_len]) (by rw [List.length_map, seen_len]; decide)).is (congrArg D.lst (zip_encT _ _))) g5.sub fun v6 I6 H6 g6 a6 => ?_
      have hfl : (((farsOf names t).take j).filter fun o => seenIn (wh B t) (wh B o)).length ≤ 4 := by
        have e1 := List.length_filter_le (fun o => seenIn (wh B t) (wh B o)) ((farsOf names t).take j)
        rw [List.length_take] at e1
        omega
      have eall : EvD K (tCB (rAll K) (tCons (tLc (iList K (tVar 12)) (gTup K 2 (gCons (gName 17) (gCons (gName 18) gNil))) tYes (tCall (pureSp K R_law_all_in) [] E0 (tCons (tVar 17) (tCons (tVar 18) tNil))) [17, 18]) tNil)) (SL u q1 q2 q3 q4 (some nm) (some (.str t)) (some iv) q8 (some sv) (some v) (some (.str o)) (some v6) q13 q14 q15) I6 H6 (.bl (seenIn (wh B t) (wh B o))) := by
        have key := ed_lc (K := K) (tt := tYes) (te := tCall (pureSp K R_law_all_in) [] E0 (tCons (tVar 17) (tCons (tVar 18) tNil))) ((seen (wh B t)).zip (seen (wh B o))) pairE (fun _ => true) (fun z => D.bl (allIn z.1 z.2)) (fun z σ2 I => ∃ x y, At K I x (encT z.1) ∧ At K I y (encT z.2) ∧ σ2 = ((wipe (SL u q1 q2 q3 q4 (some nm) (some (.str t)) (some iv) q8 (some sv) (some v) (some (.str o)) (some v6) q13 q14 q15) [17, 18]).set 17 (some x)).set 18 (some y))
          (ei_list (ed_var (σ := SL u q1 q2 q3 q4 (some nm) (some (.str t)) (some iv) q8 (some sv) (some v) (some (.str o)) (some v6) q13 q14 q15) (H := H6) (i := 12) rfl a6)) (by rw [List.length_zip, seen_len, seen_len]; decide) (fun z => bd_pair) fun z hz σ2 I7 H7 g7 ⟨x, y, ax, ay, e⟩ => by
            subst e
            refine ⟨rfl, eb_yes, fun _ => ed_call (ea_cons (ed_var rfl ax) (ea_cons (ed_var rfl ay) ea_nil)) ⟨z.1, z.2, rfl, ?_, rfl⟩⟩
            have hm := (List.of_mem_zip hz).1
            unfold seen at hm
            obtain ⟨p, hp, e⟩ := List.mem_map.mp hm
            rw [← e]
            exact Nat.lt_of_le_of_lt (left_len _ _) (paper_len p hp)
        rw [filter_yes] at key
        refine (ed_cb (ea_cons (key.is (congrArg D.lst (List.map_map (f := fun z : List Int × List Int => allIn z.1 z.2) (g := D.bl)).symm)) ea_nil) rc_all).is ?_
        rw [List.all_map]
        rfl
      refine sx_asg (K := K) (ed_op (ed_var rfl (a4.gr (g5.tr g6))) (ed_op (ed_lst (ea_cons (ed_var rfl (.str o)) ea_nil) (by simp)) (ed_cb (ea_cons eall ea_nil) rc_intB) (rd_repL ?_ ?_ ?_)) (rd_catL ?_)) g6.sub fun v7 I7 H7 g7 a7 => ?_
      · split <;> decide
      · split <;> decide
      · split
        · show 1 * 1 ≤ _
          decide
        · show 1 * 0 ≤ _
          decide
      · rw [List.length_map]
        cases seenIn (wh B t) (wh B o) with
        | true =>
          show _ + 1 ≤ _
          omega
        | false =>
          show _ + 0 ≤ _
          omega
      · refine hN2 _ I7 H7 (g6.tr g7) ⟨v7, _, _, g35.tr (g6.tr g7), ?_, rfl⟩
        rw [take_succ hpo, List.filter_append, List.map_append]
        cases hb : seenIn (wh B t) (wh B o) with
        | true =>
          rw [hb] at a7
          rw [List.filter_cons_of_pos (p := fun o => seenIn (wh B t) (wh B o)) hb]
          exact a7
        | false =>
          rw [hb] at a7
          rw [List.filter_cons_of_neg (p := fun o => seenIn (wh B t) (wh B o)) (by rw [hb]; decide)]
          exact a7
    · rintro σ1 I4 H4 s4 ⟨v, q11, q12, g4, a4, rfl⟩
      rw [List.take_length, S.others ht] at a4
      have g14 := g13.tr g4
      have hom : ∀ o ∈ othersOf B t, o ∈ names := fun o ho => by
        have := (List.mem_filter.mp ho).1
        rwa [S.nm] at this
      have hol : (othersOf B t).length ≤ 4 := by
        have := List.length_filter_le (fun o => (!decide (o = t)) && inW B t o) (namesOf B)
        rw [S.nm] at this
        have := S.len
        unfold othersOf
        rw [S.nm]
        omega
      have oko : okS (othersOf B t) := fun x hx => hok x (hom x hx)
      refine sq_par (K := K) (d := .bl (idleB B t)) (e := .lst (((othersOf B t).filter fun o => ltS o t).map D.str)) (ea_cons ((ed_op (ed_var rfl (.str t)) (ed_var rfl (ai.gr g14)) rd_inST).is (congrArg D.bl (S.idle_mem ht))) (ea_cons (ed_lcN (K := K) (othersOf B t) D.str (fun o => ltS o t) D.str (ei_list (ed_var rfl a4)) (by omega) fun o ho y I5 H5 g5 ay => ?_) ea_nil)) s4 fun v5 v6 I5 H5 g5 a5 a6 => ?_
      · cases ay
        exact ⟨rfl, eb_test (K := K) (ed_op (ed_var rfl (.str o)) (ed_var rfl (.str t)) rd_ltS), fun _ => ed_var rfl (.str o)⟩
      · cases a5
        have g15 := g14.tr g5
        refine sq_ifN ((eb_or (a := false) (b := false) ((eb_and (a := idleB B t) (b := false) (eb_B (K := K) (ed_var rfl (.bl _))) fun hi => (eb_test (K := K) (ed_op (ed_var rfl (a4.gr g5)) (ed_lst ea_nil (by simp)) (rd_eqNil oko))).is ?_).is (Bool.and_false _)) fun _ => (eb_and (a := !idleB B t) (b := false) (eb_not (eb_B (K := K) (ed_var rfl (.bl _)))) fun hi => (eb_test (K := K) (ed_op (ed_var rfl a6) (ed_lst ea_nil (by simp)) (rd_neNil (okF _ _ oko)))).is ?_).is (Bool.and_false _)).is rfl) g5.sub fun I6 H6 g6 => ?_
        · cases hh : othersOf B t with
          | nil => exact absurd hh (S.idle_ne hi)
          | cons _ _ => rfl
        · rw [S.early (by simpa using hi)]
          rfl
        · have g16 := g15.tr g6
          refine sq_asg (K := K) (d := .lst (((othersOf B t).filter fun o => nePapers (seen (wh B o)) (seen (wh B t))).map D.str)) (ed_lcN (K := K) (othersOf B t) D.str (fun o => nePapers (seen (wh B o)) (seen (wh B t))) D.str (ei_list (ed_var rfl (a4.gr (g5.tr g6)))) (by omega) fun o ho y I7 H7 g7 ay => ?_) g6.sub fun v7 I7 H7 g7 a7 => ?_
          · cases ay
            have g17 := g16.tr g7
            exact ⟨rfl, eb_test (K := K) (ed_op (ed_dget (ed_var rfl (av.gr g17)) (ed_var rfl (.str o)) (seenD_val (hom o ho))) (ed_dget (ed_var rfl (av.gr g17)) (ed_var rfl (.str t)) (seenD_val ht)) rd_nePapers), fun _ => ed_var rfl (.str o)⟩
          · have g17 := g16.tr g7
            refine sx_if (b := false) ((eb_and (a := !idleB B t) (b := false) ((eb_test (K := K) (ed_op (ed_var rfl (.str t)) (ed_var rfl (ai.gr g17)) rd_inST)).is ?_) fun hi => (eb_test (K := K) (ed_op (ed_var rfl a7) (ed_lst ea_nil (by simp)) (rd_neNil (okF _ _ oko)))).is ?_).is (Bool.and_false _)) g7.sub (fun z => nomatch z) fun _ I8 H8 g8 => hN _ I8 H8 ((((g3.tr g4).tr g5).tr g6).tr (g7.tr g8)) ⟨_, _, _, _, _, _, _, g17.tr g8, rfl⟩
            · rw [← S.idle_mem ht]
              rfl
            · rw [S.rest ht (by simpa using hi)]
              rfl
  · rintro σ1 I1 H1 s1 ⟨q6, q10, q11, q12, q13, q14, q15, g1, rfl⟩
    exact k q6 q10 q11 q12 q13 q14 q15 I1 H1 g1
end
end K98

/-! S8d: the law's loop. -/
namespace K98
open PySem PySem.Spec PyProof.Rows L2
theorem op_eqDK {X : Cx} {K : PySem.W.Frag} (h : X.K = K) (hu : X.A.units + 64 < cLine) : OpR X (compareOp .Eq) (rEqD K) := h ▸ op_eqD hu
theorem op_neDK {X : Cx} {K : PySem.W.Frag} (h : X.K = K) (hu : X.A.units + 64 < cLine) : OpR X (compareOp .NotEq) (rNeD K) := h ▸ op_neD hu
def rightSp (K : PySem.W.Frag) : Sp := fun vs H Q _ => ∃ I u, vs = [.ref u] ∧ Sub I H ∧ UrnAt u 0 I H ∧ ∀ I' H', Gr [u] I H I' H' → Q (.bl true) H'
section
variable {P : Program} {w : World} {K : PySem.W.Frag} {mg : Str → Option Value} {base : Heap}
def R_law_by_hand_right : List D → D → Prop := fun ds d => ds = [] ∧ d = .bl true
abbrev N_law_right : List Str := ["_law_urn", "_law_turn", "_law_plate", "_law_house_so", "_law_lines", "_law_names_so", "_law_tag", "_law_idle_so", "_law_papers_so", "_law_seen_so", "_law_others_so", "_law_far", "_law_pairs_so", "_law_is_so", "_law_early_so", "_law_rest_so", "_law_own", "_law_one_so", "_law_two_so"]
theorem sc_law_right : FnScope N_law_right ["_law_urn"] (defScope s_law_right) := ⟨rfl, rfl, rfl, by decide +kernel, rfl, by decide +kernel, by decide +kernel⟩
theorem ok_law_right (T : Txt K mg) (G_law_by_hand_right : Kn P w K mg base 12 1117 [] (pureSp K R_law_by_hand_right)) (G_Board_init : Kn P w K mg base 7 793 ["self"] (bInitSp K)) (G_law_line : Kn P w K mg base 4 1100 ["_law_urn", "_law_most_so", "_law_top"] (lineSp K)) (G_Board_turn : Kn P w K mg base 3 999 ["self", "script"] (brdM K R_Board_turn)) (G_law_host : Kn P w K mg base 7 1105 ["_law_line_here"] (pureSp K R_law_host)) (G_law_take : Kn P w K mg base 1 1069 ["_law_urn", "_law_low_so"] (takeSp K)) (G_Board_setitem : Kn P w K mg base 3 902 ["self", "name", "script"] (brdM K R_Board_setitem)) (G_Board_idle : Kn P w K mg base 9 964 ["self"] (brdU K R_Board_idle)) (G_law_papers : Kn P w K mg base 1 1122 [] (pureSp K R_law_papers)) (G_law_left : Kn P w K mg base 1 1110 ["_law_line_here", "_law_towns_so"] (pureSp K R_law_left)) (G_law_all_in : Kn P w K mg base 1 1127 ["_law_some_so", "_law_more_so"] (pureSp K R_law_all_in)) : Kn P w K mg base 13 1132 ["_law_urn"] (rightSp K) := by
  refine Kn.of T.f_law_right sc_law_right (fun _ _ _ _ _ _ us hl => match us, hl with | [_], _ => rfl) (fun vs H Q E h => ?_) fun cdv A outer s H0 vs Q E hr h => ?_
  · obtain ⟨I, u, rfl, _⟩ := h
    rfl
  · refine ⟨_, ((pss_cons (ps_if (pt_not (pt_val (pc0 G_law_by_hand_right (hr.mono (by decide)) T.g_law_by_hand_right))) (pss_one (ps_ret pe_bl)) pss_nil) (pss_cons (ps_for PassesOwn.never rfl (pi_range1 (by rfl) T.z_range (pa_cons pe_int pa_nil)) (pg_name (i := 1) sc_law_right.nd rfl (Or.inl rfl)) (pss_cons (ps_asg (pe_tup (pa_cons (pmk0 T.k_Board G_Board_init (hr.mono (by decide)) T.g_Board) (pa_cons (pc G_law_line (hr.mono (by decide)) T.g_law_line (pa_cons (pv 0) (pa_cons pe_int (pa_cons pe_int pa_nil)))) (pa_cons pe_dnewK pa_nil)))) (pg_tup rfl (pgs_cons (pg_name (i := 2) sc_law_right.nd rfl (Or.inl rfl)) (pgs_cons (pg_name (i := 3) sc_law_right.nd rfl (Or.inr rfl)) (pgs_cons (pg_name (i := 4) sc_law_right.nd rfl (Or.inr rfl)) pgs_nil))))) (pss_cons (ps_expr (pm (pv 2) T.c_Board T.m_Board_turn G_Board_turn (hr.mono (by decide)) (pa_cons (pc G_law_host (hr.mono (by decide)) T.g_law_host (pa_cons (pv 3) pa_nil)) pa_nil))) (pss_cons (ps_set (i := 5) sc_law_right.nd rfl (Or.inl rfl) (pe_slice sl_list (pe_lst (pa_cons pe_str (pa_cons pe_str (pa_cons pe_str (pa_cons pe_str pa_nil))))) po_none (po_some (pe_op op_add pe_int (pc G_law_take (hr.mono (by decide)) T.g_law_take (pa_cons (pv 0) (pa_cons pe_int pa_nil))))))) (pss_cons (ps_for PassesOwn.never rfl (pi_list (pv 5)) (pg_name (i := 6) sc_law_right.nd rfl (Or.inr rfl)) (pss_cons (ps_dput (hu_of hr) (pv 4) (pv 6) (pc G_law_line (hr.mono (by decide)) T.g_law_line (pa_cons (pv 0) (pa_cons pe_int (pa_cons pe_int pa_nil)))) rfl) (pss_one (ps_asg (pc G_law_host (hr.mono (by decide)) T.g_law_host (pa_cons (pe_dget (hu_of hr) (pv 4) (pv 6) (fun _ _ => rfl)) pa_nil)) (pg_sub (pv 2) (pv 6) (set_own T.m_Board_setitem T.odd3.2.1 G_Board_setitem (hr.mono (by decide)))))))) (pss_cons (ps_asg (pe_tup (pa_cons (pm0 (pv 2) T.c_Board T.m_Board_idle G_Board_idle (hr.mono (by decide))) (pa_cons (pc0 G_law_papers (hr.mono (by decide)) T.g_law_papers) pa_nil))) (pg_tup rfl (pgs_cons (pg_name (i := 7) sc_law_right.nd rfl (Or.inl rfl)) (pgs_cons (pg_name (i := 8) sc_law_right.nd rfl (Or.inr rfl)) pgs_nil)))) (pss_cons (ps_set (i := 9) sc_law_right.nd rfl (Or.inr rfl) (pe_callTy (call_dictP rfl) (by rfl) T.z_dict (by decide +kernel) (pa_cons (pe_lc (own := [("_law_tag", 6)]) (g := (gName 6)) (tt := tYes) rfl sc_law_right.nd (pi_list (pv 5)) (blkOk_by (N := N_law_right) (sc := defScope s_law_right) (by decide +kernel)) (fun _ _ _ _ _ => (pg_name (i := 6) sc_law_right.nd rfl (Or.inr rfl))) (fun _ _ _ _ _ => pts_nil) (fun _ _ _ _ _ => (pe_tup (pa_cons (pv 6) (pa_cons (pe_lc (own := [("_law_own", 16)]) (g := (gName 16)) (tt := tYes) rfl sc_law_right.nd (pi_listK (K := K) rfl (pv 8)) (blkOk_by (N := N_law_right) (sc := { kind := .function, names := [(".0", .local), ("_law_tag", .cell), ("_law_house_so", .cell), ("_law_lines", .cell), ("_law_papers_so", .cell)], isGenerator := false, isCoroutine := false }) (scope := { kind := .function, names := [(".0", .local), ("_law_own", .local), ("_law_left", .globalImplicit), ("_law_house_so", .free), ("_law_lines", .free), ("_law_tag", .free)], isGenerator := false, isCoroutine := false }) (own := [("_law_own", 16)]) (by decide +kernel)) (fun _ _ _ _ _ => (pg_name (i := 16) sc_law_right.nd rfl (Or.inl rfl))) (fun _ _ _ _ _ => pts_nil) (fun _ _ _ _ _ => (pc G_law_left (hr.mono (by decide)) T.g_law_left (pa_cons (pe_op (op_catAK (K := K) rfl) (pv 3) (pe_dget (hu_of hr) (pv 4) (pv 6) (fun _ _ => rfl))) (pa_cons (pv 16) pa_nil))))) pa_nil))))) pa_nil))) (pss_one (ps_for PassesOwn.never rfl (pi_list (pv 5)) (pg_name (i := 6) sc_law_right.nd rfl (Or.inr rfl)) (pss_cons (ps_set (i := 10) sc_law_right.nd rfl (Or.inl rfl) (pe_lst pa_nil)) (pss_cons (ps_for PassesOwn.never rfl (pi_list (pe_lc (own := [("_law_own", 16)]) (g := (gName 16)) rfl sc_law_right.nd (pi_list (pv 5)) (blkOk_by (N := N_law_right) (sc := defScope s_law_right) (by decide +kernel)) (fun _ _ _ _ _ => (pg_name (i := 16) sc_law_right.nd rfl (Or.inl rfl))) (fun _ _ _ _ _ => (pts_one (pt_cmpR op_ne (pv 16) (pv 6) (nomark _)))) (fun _ _ _ _ _ => (pv 16)))) (pg_name (i := 11) sc_law_right.nd rfl (Or.inl rfl)) (pss_cons (ps_set (i := 12) sc_law_right.nd rfl (Or.inl rfl) (pe_listZip rfl (by rfl) T.z_list (by rfl) T.z_zip (by decide +kernel) (pa_cons (pe_dget (hu_of hr) (pv 9) (pv 6) (fun _ _ => rfl)) (pa_cons (pe_dget (hu_of hr) (pv 9) (pv 11) (fun _ _ => rfl)) pa_nil)))) (pss_one (ps_set (i := 10) sc_law_right.nd rfl (Or.inl rfl) (pe_op op_cat (pv 10) (pe_op op_rep (pe_lst (pa_cons (pv 11) pa_nil)) (pe_callTy call_int1 (by rfl) T.z_int (by decide +kernel) (pa_cons (pe_callB (cr_all rfl) (by rfl) T.z_all (by decide +kernel) (pa_cons (pe_lc (own := [("_law_one_so", 17), ("_law_two_so", 18)]) (g := (gTup K 2 (gCons (gName 17) (gCons (gName 18) gNil)))) (tt := tYes) rfl sc_law_right.nd (pi_list (pv 12)) (blkOk_by (N := N_law_right) (sc := defScope s_law_right) (by decide +kernel)) (fun _ _ _ _ _ => (pg_tup rfl (pgs_cons (pg_name (i := 17) sc_law_right.nd rfl (Or.inl rfl)) (pgs_cons (pg_name (i := 18) sc_law_right.nd rfl (Or.inl rfl)) pgs_nil)))) (fun _ _ _ _ _ => pts_nil) (fun _ _ _ _ _ => (pc G_law_all_in (hr.mono (by decide)) T.g_law_all_in (pa_cons (pv 17) (pa_cons (pv 18) pa_nil))))) pa_nil)) pa_nil)))))))) (pss_cons (ps_par (i := 13) (j := 14) rfl sc_law_right.nd rfl rfl (by decide) rfl rfl (pa_cons (pe_cmpR op_in_seq (pv 6) (pv 7) (by rfl)) (pa_cons (pe_lc (own := [("_law_own", 16)]) (g := (gName 16)) rfl sc_law_right.nd (pi_list (pv 10)) (blkOk_by (N := N_law_right) (sc := defScope s_law_right) (by decide +kernel)) (fun _ _ _ _ _ => (pg_name (i := 16) sc_law_right.nd rfl (Or.inl rfl))) (fun _ _ _ _ _ => (pts_one (pt_cmpR op_lt_str (pv 16) (pv 6) (nomark _)))) (fun _ _ _ _ _ => (pv 16))) pa_nil)) (by rfl)) (pss_cons (ps_if (PW.pt (pw_or (PW.pt (pw_and (pt_val (pv 13)) (pw_and1 (pt_cmpR (op_eqD hr.units) (pv 10) (pe_lst pa_nil) (nomark _))))) (pw_or1 (PW.pt (pw_and (pt_not (pt_val (pv 13))) (pw_and1 (pt_cmpR (op_neD hr.units) (pv 14) (pe_lst pa_nil) (nomark _)))))))) (pss_one (ps_ret pe_bl)) pss_nil) (pss_cons (ps_setLc (i := 15) (own := [("_law_own", 16)]) (g := (gName 16)) rfl sc_law_right.nd rfl rfl (sw_true rfl rfl rfl (by decide +kernel)) (pi_list (pv 10)) (blkOk_by (N := N_law_right) (sc := defScope s_law_right) (by decide +kernel)) (fun _ _ _ _ _ => (pg_name (i := 16) sc_law_right.nd rfl (Or.inl rfl))) (fun _ _ _ _ _ => (pts_one (pt_cmpR (op_neDK (K := K) rfl hr.units) (pe_dget (hu_of hr) (pv 9) (pv 16) (fun _ _ => rfl)) (pe_dget (hu_of hr) (pv 9) (pv 6) (fun _ _ => rfl)) (nomark _)))) (fun _ _ _ _ _ => (pv 16))) (pss_one (ps_if (PW.pt (pw_and (pt_cmpR op_notIn_seq (pv 6) (pv 7) (by rfl)) (pw_and1 (pt_cmpR (op_neD hr.units) (pv 15) (pe_lst pa_nil) (nomark _))))) (pss_one (ps_ret pe_bl)) pss_nil)))))))))))))))) (pss_one (ps_ret pe_bl)))) : PSs _ _ _).nox, ?_⟩
    obtain ⟨I, u, rfl, s1, hU, q⟩ := h
    refine sq_ifN (eb_not (a := true) (eb_B (K := K) (ed_call ea_nil ⟨rfl, rfl⟩))) s1 fun I1 H1 g1 => ?_
    refine sq_for (K := K) (M := [u]) (List.range 6) (fun i => D.int ((0 : Int) + ((i : Nat) : Int))) (fun i σ1 I2 H2 => ∃ q1 q2 q3 q4 q5 q6 q7 q8 q9 q10 q11 q12 q13 q14 q15, Gr [u] I H0 I2 H2 ∧ UrnAt u (i * 100) I2 H2 ∧ σ1 = SL u q1 q2 q3 q4 q5 q6 q7 q8 q9 q10 q11 q12 q13 q14 q15)
      ((ei_rng1 (K := K) (j := 6) (ea_cons ed_int ea_nil) (by decide) (by decide)).is rfl) g1.sub (fun I2 H2 g2 => ⟨_, _, _, _, _, _, _, _, _, _, _, _, _, _, _, (g1.tr g2).any, (hU.gr g1).gr g2, rfl⟩) ?_ ?_
    · rintro i n x σ1 I2 H2 hp ⟨q1, q2, q3, q4, q5, q6, q7, q8, q9, q10, q11, q12, q13, q14, q15, g2, hU2, rfl⟩ I3 H3 g3 a3 N hN
      have hi : i < 6 := by
        have := (List.getElem?_eq_some_iff.mp hp).1
        rwa [List.length_range] at this
      refine bd_name x I3 H3 g3.sub a3 _ ?_
      rintro σ2 ⟨x1, ax1, rfl⟩
      have hU3 := hU2.gr g3
      refine ph1 (K := K) (u := u) (m := i * 100) rfl g3.sub hU3 (by omega) fun b pl ll v hs I4 H4 gA hb hpl hll nbl npl hU4 hB4 nl4 hl4 av hsl hss => ?_
      obtain ⟨ou, hou⟩ := hU3.some
      have nub : u ≠ b := fun z => by rw [z, hb] at hou; cases hou
      have nup : u ≠ pl := fun z => by rw [z, hpl] at hou; cases hou
      have nul : u ≠ ll := fun z => by rw [z, hll] at hou; cases hou
      refine sq_brdM (K := K) (i := 2) (B' := ⟨[], hs, [], 1⟩) rfl hB4 (ea_cons (ed_call (ea_cons (ed_var rfl av) ea_nil) ⟨hs, rfl, fun t ht => (hss t ht).1, by omega, rfl⟩) ea_nil) ⟨hs, rfl, by decide, rfl⟩ gA.sub fun I5 H5 gB hB5 => ?_
      have gAB := gA.newM gB hU4.some (by simp [hb, hpl])
      have hU5 := hU4.grM gB (by simp [nub, nup])
      have hL5 : Lin K ll [] I5 H5 := Lin.grM ⟨nl4, [], hl4, .nil⟩ gB (by simp [Ne.symm nbl, Ne.symm npl])
      refine ph3 (K := K) (u := u) (m := i * 100 + 9) rfl gB.sub hU5 (by omega) fun nm k I6 H6 gC hU6 hk an => ?_
      have gAC := gAB.two gC hU5.some
      have hB6 := hB5.grM gC (by simpa using Ne.symm nub) (by simpa using Ne.symm nup)
      have hL6 := hL5.grM gC (by simpa using Ne.symm nul)
      have hnd : (NAMES.take k).Nodup := NAMES_nd.sublist (List.take_sublist _ _)
      have hnl : (NAMES.take k).length ≤ 4 := by
        rw [List.length_take]
        exact Nat.le_trans (Nat.min_le_left _ _) hk
      refine ph4 (K := K) (u := u) (m := i * 100 + 9 + 1) (names := NAMES.take k) gC.sub hU6 (by omega) hB6 (by decide) hL6 nub nup nul nbl npl hnd hnl an fun q6 reps np I7 H7 gD hU7 hB7 hL7 hr hrs => ?_
      have gAD := gAC.newM gD hU6.some (by simp [hb, hpl, hll])
      have S : SetUp (NAMES.take k) ⟨[], hs, reps, np⟩ := ⟨hr, hnd, hnl, hsl, hss, hrs⟩
      refine sq_tgt (K := K) (d := .tup [.tup ((idleOf ⟨[], hs, reps, np⟩).map D.str), .lst (papers.map encT)]) (ed_tup (ea_cons (ed_brdU (i := 2) rfl hB7 ea_nil ⟨rfl, S.ok, rfl⟩) (ea_cons (ed_call ea_nil ⟨rfl, rfl⟩) ea_nil)) (by simp)) bd_pair gD.sub ?_
      rintro σ3 I8 H8 gE ⟨iv, pp, ai, ap, rfl⟩
      have gAE := gAD.onE gE hU7.some
      have hU8 := hU7.gr gE
      obtain ⟨nl8, kvs, hl8, al8⟩ := hL7.grM gE (by simp)
      have gF : Gr [u] I3 H3 (upd I8 ll (.dK kvs)) H8 := gAE.know hll hl8 nl8
      have le8 : Le I8 (upd I8 ll (.dK kvs)) := upd_le nl8
      have hU9 : UrnAt u (i * 100 + 9 + 1 + 36) (upd I8 ll (.dK kvs)) H8 := by
        obtain ⟨z, r⟩ := hU8
        exact ⟨by rw [upd_ne nul]; exact z, r⟩
      refine ph5 (K := K) (u := u) (names := NAMES.take k) (B := ⟨[], hs, reps, np⟩) S gF.sub (At.le (gC.le.trans (gD.le.trans (gE.le.trans le8))) _ (av.gr gB)) (At.dic (.inl upd_same) (AtK.le le8 _ al8)) (At.le (gD.le.trans (gE.le.trans le8)) _ an) (At.le le8 _ ap) fun sv I9 H9 gG a9 => ?_
      have hokn : okS (NAMES.take k) := fun x hx => NAMES_ok x (List.mem_of_mem_take hx)
      refine ph6 (K := K) (u := u) (names := NAMES.take k) (B := ⟨[], hs, reps, np⟩) S hokn gG.sub (At.le (gD.le.trans (gE.le.trans (le8.trans gG.le))) _ an) a9 (At.le (le8.trans gG.le) _ ai) fun q6 q10 q11 q12 q13 q14 q15 I10 H10 gH => ?_
      have gZ := gF.onE (gG.tr gH) hU9.some
      exact hN _ I10 H10 gZ ⟨_, _, _, _, _, _, _, _, _, _, _, _, _, _, _, (g2.onE g3 hU2.some).two gZ hU3.some, ((hU9.gr gG).gr gH).le (by omega), rfl⟩
    · rintro σ1 I2 H2 s2 ⟨q1, q2, q3, q4, q5, q6, q7, q8, q9, q10, q11, q12, q13, q14, q15, g2, hU2, rfl⟩
      exact q I2 H2 g2
end
end K98

/-! S8g: law. -/
namespace K98
open PySem PySem.Spec PyProof.Rows L2
def lawSp (K : PySem.W.Frag) : Sp := fun vs H Q _ => ∃ (a : Addr) (ns : List Int), vs = [.ref a] ∧ SqL K H a (ns.map V.int) ∧ ns.length ≤ 63 ∧ ∀ H', Q (.bl true) H'
section
variable {K : PySem.W.Frag} {σ : L2.St} {I H I' H' : Hp}
theorem ed_right {t : TA} {ns : List Int} {k : Int} (ha : EvA K t σ I H [.lst (ns.map D.int), .int k]) (h0 : 0 ≤ k) (h1 : k < 1000) : EvD K (tCall (rightSp K) [] E0 (tCons (tCall (boxSp K) [] E0 t) tNil)) σ I H (.bl true) := fun I1 H1 g Q q =>
  ha I1 H1 g _ fun vs I2 H2 g2 as => by
    obtain ⟨v, w, rfl, av, aw⟩ := as.two
    cases aw
    refine ⟨I2, ns, k, v, rfl, g2.sub, av, h0, h1, fun u I3 H3 g3 hu hU => ⟨I3, u, rfl, g3.sub, hU, fun I4 H4 g4 => ?_⟩⟩
    refine q _ I4 H4 (g2.tr ⟨fun a o z => g4.ext a o (g3.ext a o z), g4.sub, fun a o n z => g4.out a o (g3.out a o n z) (g3.keep a o n z (by simp)), fun a o n z _ => g4.keep a o (g3.out a o n z) (g3.keep a o n z (by simp)) ?_⟩) (.bl _)
    intro hm
    rw [List.mem_singleton.mp hm, hu] at z
    cases z
end
section
variable {P : Program} {w : World} {K : PySem.W.Frag} {mg : Str → Option Value} {base : Heap}
theorem fn_of {x qual : Str} {st : Stmt} {f : Addr} {N ps : List Str} {k : Nat} {sp : Sp} {fd : FuncData} (F : FunD K x qual (defArgs st) (defBody st) (defScope st) [] [] f fd) (S : FnScope N ps (defScope st))
    (len : ∀ vs H Q E, sp vs H Q E → vs.length = ps.length)
    (body : ∀ (cdv : Value) (A : Around) (outer : List Env) (s : Shared) (H : Hp) (vs : List V) (Q : VK) (E : XK), Room k (A.deeper (envOfC qual (defScope st) s.heap.objs.size f cdv)) → sp vs H Q E →
      ∃ t, PSs (cxOf CX0 P w K mg base N qual (defScope st) f cdv A outer s H E).nox (defBody st) t ∧ t { nx := fun _ H' => Q .non H', rt := Q } (start N vs) H) : FnOk P w K mg base CX0 (k + 1) f fd ps sp :=
  F.ok S len fun cdv A outer s H vs Q E hr h => by
    obtain ⟨t, h1, h2⟩ := body cdv A outer s H vs Q E hr h
    exact ⟨t, h1.nox, h2⟩
abbrev N_law : List Str := ["_law_script", "_law_cells_here", "_law_k"]
theorem sc_law : FnScope N_law ["_law_script"] (defScope s_law) := ⟨rfl, rfl, rfl, by decide +kernel, rfl, by decide +kernel, by decide +kernel⟩
theorem ok_law {fd : FuncData} (T : Txt K mg) (F : FunD K "law" "law" (defArgs s_law) (defBody s_law) (defScope s_law) [] [] 1137 fd) (G_law_cells : Kn P w K mg base 1 1076 ["_law_script", "_law_top"] (cellsSp K)) (G_law_box : Kn P w K mg base 1 1062 ["_law_script", "_law_k"] (boxSp K)) (G_law_right : Kn P w K mg base 13 1132 ["_law_urn"] (rightSp K)) : FnOk P w K mg base CX0 14 1137 fd ["_law_script"] (lawSp K) := by
  refine fn_of F sc_law (fun vs H Q E h => ?_) fun cdv A outer s H0 vs Q E hr h => ?_
  · obtain ⟨a, ns, rfl, _⟩ := h
    rfl
  · refine ⟨_, ((pss_cons (ps_set (i := 1) sc_law.nd rfl (Or.inr rfl) (pc G_law_cells (hr.mono (by decide)) T.g_law_cells (pa_cons (pv 0) (pa_cons pe_int pa_nil)))) (pss_one (ps_ret (pe_callB (cr_all rfl) (by rfl) T.z_all (by decide +kernel) (pa_cons (pe_lc (own := [("_law_k", 2)]) (g := (gName 2)) (tt := tYes) rfl sc_law.nd (pi_range1 (by rfl) T.z_range (pa_cons (pe_callB call_len_seq (by rfl) T.z_len PySem.boot_len (pa_cons (pv 1) pa_nil)) pa_nil)) (blkOk_by (N := N_law) (sc := defScope s_law) (by decide +kernel)) (fun _ _ _ _ _ => (pg_name (i := 2) sc_law.nd rfl (Or.inl rfl))) (fun _ _ _ _ _ => pts_nil) (fun _ _ _ _ _ => (pc G_law_right (hr.mono (by decide)) T.g_law_right (pa_cons (pc G_law_box (hr.mono (by decide)) T.g_law_box (pa_cons (pv 1) (pa_cons (pv 2) pa_nil))) pa_nil)))) pa_nil))))) : PSs _ _ _).nox, ?_⟩
    obtain ⟨a, ns, rfl, hs, hn, q⟩ := h
    refine ⟨.ref a, rfl, H0, a, ns, rfl, fun _ _ z => z, hs, hn, fun v ms I1 H1 g1 av hm => ?_⟩
    refine EvD.run (K := K) (d := .bl (((List.range ms.length).map fun _ => true).all id)) (ed_cb (ea_cons ((ed_lcNY (K := K) (List.range ms.length) (fun i => D.int ((0 : Int) + ((i : Nat) : Int))) (fun _ => .bl true) ((ei_rng1 (K := K) (j := ((ms.map D.int).length : Nat)) (ea_cons (ed_cb (ea_cons (ed_var rfl av) ea_nil) rc_lenL) ea_nil) ?_ ?_).is ?_) ?_ (fun _ => rfl) fun i hi y I2 H2 g2 ay => ?_).is ?_) ea_nil) rc_all) g1.sub fun v2 I2 H2 g2 a2 => ?_
    · omega
    · rw [List.length_map]
      omega
    · rw [List.length_map, Int.toNat_natCast]
    · rw [List.length_range]
      omega
    · cases ay
      have hi2 := List.mem_range.mp hi
      exact ed_right (ea_cons (ed_var rfl (av.gr g2)) (ea_cons (ed_var rfl (.int _)) ea_nil)) (by omega) (by omega)
    · rw [List.map_map]
      rfl
    · have e : ((List.range ms.length).map fun _ => true).all id = true := by
        rw [List.all_map, List.all_eq_true]
        exact fun _ _ => rfl
      rw [e] at a2
      cases a2
      exact q H2
end
end K98

/-! S5EnumT: enumerate(tuple). -/
namespace K98
open PySem PySem.Spec PyProof.Rows L2
set_option maxHeartbeats 8000000 in
theorem meets_enumT (t : Addr) (items : Array Value) :
    Meets (Builtin.«enumerate.__new__» ⟨[.type "enumerate", .ref t], []⟩) (fun _ R s => s.heap.IsTuple t items ∧
      R (.ok (.ret (.ref (s.heap.push { cls := .type "tuple_iterator", data := .fields #[.ref t, .int 0 0] }).objs.size)))
        { s with heap := (s.heap.push { cls := .type "tuple_iterator", data := .fields #[.ref t, .int 0 0] }).push { cls := .type "enumerate", data := .fields #[.none, .bool false, .ref s.heap.objs.size, rawInt 0, .none, .none] } }) :=
  .of_wp fun prog w A R s h => by
    obtain ⟨hp, g, d, tk, os⟩ := s
    obtain ⟨hl, h⟩ := h
    have hsub := sub_enumerate
    have q1 : ∀ {A : Around} {E : Value → Shared → Prop} {Q : Value → Shared → Prop}, Q (.ref hp.objs.size) ⟨hp.push { cls := .type "tuple_iterator", data := .fields #[.ref t, .int 0 0] }, g, d, tk, os⟩ → wpAny (model prog w) A (pyIter (.ref t)) Q E ⟨hp, g, d, tk, os⟩ := fun h => wpAny_pyIter_tuple hl h
    wp_walk
    refine wpAny_stack_any fun st => wpAny_pure ?_
    split
    · rename_i c _ _ _ _ _
      cases (c == Value.type "enumerate")
      · wp_walk using q1
        exact ⟨_, rfl, h⟩
      · wp_walk using q1
        exact ⟨_, rfl, h⟩
    · wp_walk using q1
      exact ⟨_, rfl, h⟩
section
variable {prog : Program} {w : World} {A : Around} {E : Value → Shared → Prop} {s : Shared}
theorem call_enumT {t : Addr} {items : Array Value} {Q : Value → Shared → Prop} (hL : s.heap.IsTuple t items)
    (h : ∀ h', IsEnum h' (s.heap.objs.size + 1) s.heap.objs.size 0 .none → h'.IsTupleIter s.heap.objs.size t 0 → h'.objs.size = s.heap.objs.size + 2 →
      (∀ b o, s.heap.get? b = some o → h'.get? b = some o) → Q (.ref (s.heap.objs.size + 1)) { s with heap := h' }) :
    wpAny (model prog w) A (call (.type "enumerate") [.ref t]) Q E s := by
  refine callType_new F.called_enumerate (by decide) (F.typeCall_enumerate_1 _) (F.newCall_enumerate_1 _) (fun obj => F.args_object_init_2 obj _) F.entry_enumerate_new
    (meets_enumT t items) ⟨hL, ?_⟩
  have hz : (s.heap.push { cls := .type "tuple_iterator", data := .fields #[.ref t, .int 0 0] }).objs.size = s.heap.objs.size + 1 := Heap.size_push ..
  show _ ∧ _
  rw [hz]
  have he : IsEnum ((s.heap.push { cls := .type "tuple_iterator", data := .fields #[.ref t, .int 0 0] }).push
      { cls := .type "enumerate", data := .fields #[.none, .bool false, .ref s.heap.objs.size, rawInt 0, .none, .none] }) (s.heap.objs.size + 1) s.heap.objs.size 0 .none := by
    have := Heap.get?_push_size (s.heap.push { cls := .type "tuple_iterator", data := .fields #[.ref t, .int 0 0] }) (o := { cls := .type "enumerate", data := .fields #[.none, .bool false, .ref s.heap.objs.size, rawInt 0, .none, .none] }) rfl
    rw [hz] at this
    exact this
  refine ⟨⟨_, he, rfl⟩, h _ he ⟨_, Heap.get?_push_of_some _ (Heap.get?_push_size _ rfl), rfl, rfl⟩ (by rw [Heap.size_push, hz]) fun b o x => Heap.get?_push_of_some _ (Heap.get?_push_of_some _ x)⟩
end
/-- the tuple at a, each item in a new pair with its number -/
def ItT (K : PySem.W.Frag) (a : Addr) : It :=
  ⟨fun i H => ∃ (xs : List V) (x : V), SqT K H a xs ∧ xs[i]? = some x, fun i H v H' => ∃ T x, v = .ref T ∧ H T = none ∧ H' = upd H T (.tup [.int (i : Nat), x]) ∧ ∀ xs, SqT K H a xs → xs[i]? = some x, fun i H => ∃ xs : List V, SqT K H a xs ∧ xs.length = i⟩
theorem turn_enumT {P : Program} {w : World} {K : PySem.W.Frag} {elts : List Expr} {kk : Nat} {tpos : Pos} (a e it : Addr) :
    Turn P w K (.Tuple elts kk tpos) (ItT K a) [e, it] e (fun i h => (∃ old, IsEnum h e it ((i : Nat) : Int) old) ∧ h.IsTupleIter it a i ∧ e ≠ it ∧ a ≠ it ∧ e ≠ a) where
  mem := by simp
  obj := fun i h st b hb => by
    obtain ⟨⟨old, he⟩, ⟨o, ho, hc, hd⟩, _⟩ := st
    have e' : b = e ∨ b = it := by simpa using hb
    rcases e' with z | z
    · rw [z]; exact ⟨_, he, fun v q => nomatch q⟩
    · rw [z]; exact ⟨o, ho, fun v q => by rw [hd] at q; cases q⟩
  keep := fun i h h' st k => let ⟨⟨old, he⟩, hi, hne⟩ := st; ⟨⟨old, k e (by simp) _ he⟩, hi.at fun o q => k it (by simp) o q, hne⟩
  item := by
    intro X hP hw hK hc i pins s σ H E I hf st hg
    subst hP hw hK
    obtain ⟨⟨old, he⟩, hit, hne, hai, hea⟩ := st
    obtain ⟨xs, x, hq, hx⟩ := hg
    obtain ⟨its, rv, p, hz⟩ := I.tuple hq
    obtain ⟨u, hu, ru⟩ := rv.get hx
    have hel : e < s.heap.objs.size := Heap.lt_size he
    have hil : it < s.heap.objs.size := by obtain ⟨_, q, _⟩ := hit; exact Heap.lt_size q
    have hlt : i < its.toArray.size := by
      have := (List.getElem?_eq_some_iff.mp hu).1
      simpa using this
    refine wpAny_pyNext_enum_itemC (Draws.tuple (A := X.A.in1) (I.ok.hd hc) it a hai its.toArray) he ⟨hit, p⟩ hlt hne (by simp [hne, hea]) fun x' h' tk hP' ho hs' hT hsz hk => ?_
    have hxu : x' = u := by
      have h1 : its.toArray[i]? = some x' := hP'
      have h2 : its.toArray[i]? = some u := by simpa using hu
      rw [h1] at h2
      exact Option.some.inj h2
    subst hxu
    refine ⟨_, rfl, wpAny_letOwnedTupleGo_enum (s := { s with heap := h', toks := tk + 1 }) ho fun h'' he' sb => ?_⟩
    have hT2 : h''.get? s.heap.objs.size = some { cls := .type "tuple", data := .seq #[.int i tk, x'] } := (sb.2 _ (Nat.ne_of_gt hel)).trans hT
    have new : ObjOk X.prog X.w (upd H s.heap.objs.size (.tup [.int (i : Nat), x])) h'' s.heap.objs.size (.tup [.int (i : Nat), x]) :=
      ⟨by show 2 ≤ sizeLine; decide, [.int i tk, x'], .cons ⟨_, rfl⟩ (.cons ru .nil), ⟨_, hT2, rfl, _, rfl⟩⟩
    have I1 : Inv X pins σ (upd H s.heap.objs.size (.tup [.int (i : Nat), x])) { s with heap := h'', toks := tk + 1 } :=
      I.turnedNew (ch := [e, it]) (fun b ob hb q => (sb.2 b (fun z => hb (by simp [z]))).trans (hk b ob (fun z => hb (by simp [z])) (fun z => hb (by simp [z])) q)) hf (Nat.le_refl _) new
    refine ⟨.ref s.heap.objs.size, _, I1, rfl, ⟨_, x, rfl, I.hok.fresh (Nat.le_refl _), rfl, fun ys hy => ?_⟩, ⟨⟨x', ?_⟩, hs'.1.at fun o q => (sb.2 it (Ne.symm hne)).trans q, hne, hai, hea⟩, fun b hb => ?_⟩
    · rw [I.tuple_inj hy hq]
      exact hx
    · have e1 : ((i + 1 : Nat) : Int) = (i : Int) + 1 := by omega
      rw [e1]; exact he'
    · have hb' : b < s.heap.objs.size := by
        have e' : b = e ∨ b = it := by simpa using hb
        rcases e' with z | z
        · rw [z]; exact hel
        · rw [z]; exact hil
      rw [upd_ne (Nat.ne_of_lt hb')]
      exact (hf b hb).1
  done := by
    intro X hP hw hK hc i pins s σ H E I hf st hg
    subst hP hw hK
    obtain ⟨⟨old, he⟩, hit, hne, hai, hea⟩ := st
    obtain ⟨xs, hq, hx⟩ := hg
    obtain ⟨its, rv, p, hz⟩ := I.tuple hq
    obtain ⟨f0, f1, f2, f3, f4, f5⟩ := hf it (by simp)
    have hl := rv.length
    have hn : its.toArray.size = i := by rw [List.size_toArray]; omega
    exact wpAny_pyNext_enum_endD (Draws.tuple (A := X.A.in1) (I.ok.hd hc) it a hai its.toArray) he (by rw [hn]; exact ⟨hit, p⟩) fun h' eb => ⟨rfl, I.turned (t' := s.toks) (fun b o hb q => eb b o hb q) f0 f1 f3 f4 f5⟩
  self := fun A i s Q E st h => let ⟨⟨_, he⟩, _⟩ := st; wpAny_pyIter_enum he h
def iEnumT (K : PySem.W.Frag) (ta : TA) : TI := fun σ H R => ta σ H fun vs H1 => ∃ a xs, vs = [.ref a] ∧ SqT K H1 a xs ∧ R (ItT K a) H1
theorem pi_enumT {X : Cx} {e : Expr} {ta : TA} {p pos tpos : Pos} {elts : List Expr} {kk : Nat} (hg : Gl X "enumerate") (hm : X.mg "enumerate" = none) (ha : PA X [e] ta) (hs : starEach [e] X.env = [(false, eval e X.env)] := by rfl) :
    PI X (.Tuple elts kk tpos) (.Call (.Name "enumerate" p) [e] [] pos) (iEnumT X.K ta) := by
  refine ⟨fun pins s σ H R I h => ?_⟩
  refine Call_ (ld_blt I hg hm boot_enumerate (PyProof.Rows.callWith_type1 (thn (ha.run pos pins s σ H _ I h) fun us s1 ⟨vs, H1, I1, r1, q1⟩ => ?_) hs rfl))
  obtain ⟨a, xs, ex, hq, q⟩ := q1
  subst ex
  cases r1 with
  | cons r rr =>
    cases rr
    cases r
    obtain ⟨its, rv, p', hz⟩ := I1.tuple hq
    have hal : a < s1.heap.objs.size := let ⟨_, q, _⟩ := p'; Heap.lt_size q
    refine call_enumT p' fun h' he hit hsz hk => wpAny_pyIter_enum he ?_
    have I2 : Inv X pins σ H1 { s1 with heap := h' } := I1.kept (t' := s1.toks) hk
    refine ⟨s1.heap.objs.size + 1, [s1.heap.objs.size + 1, s1.heap.objs.size], _, _, H1, rfl, I2, turn_enumT a (s1.heap.objs.size + 1) s1.heap.objs.size, ⟨⟨.none, he⟩, hit, Nat.succ_ne_self _, Nat.ne_of_lt hal, Nat.ne_of_gt (Nat.lt_succ_of_lt hal)⟩, fun b hb => ?_, q⟩
    have e' : b = s1.heap.objs.size + 1 ∨ b = s1.heap.objs.size := by simpa using hb
    have hle : s1.heap.objs.size ≤ b := by
      rcases e' with z | z
      · rw [z]; exact Nat.le_add_right _ _
      · rw [z]; exact Nat.le_refl _
    exact I1.fpOk hle (I1.hok.fresh hle)
section
variable {K : PySem.W.Frag} {σ : L2.St} {I H : Hp}
theorem itT_D {a : Addr} {xs : List V} {ds : List D} (h : SqT K I a xs) (as : AtL K I xs ds) : ItD K (ItT K a) I ((List.range ds.length).map fun i => D.tup [.int (i : Nat), ds.getD i .non]) := by
  have get : ∀ {i : Nat} {d : D}, ((List.range ds.length).map fun i => D.tup [.int (i : Nat), ds.getD i .non])[i]? = some d → ∃ e v, ds[i]? = some e ∧ xs[i]? = some v ∧ At K I v e ∧ d = .tup [.int (i : Nat), e] := fun {i d} e => by
    rw [List.getElem?_map] at e
    obtain ⟨k, hk, rfl⟩ := Option.map_eq_some_iff.mp e
    obtain ⟨hl, rfl⟩ := List.getElem?_eq_some_iff.mp hk
    rw [List.length_range] at hl
    obtain ⟨v, hv, av⟩ := as.get (List.getElem?_eq_getElem hl)
    refine ⟨ds[i], v, List.getElem?_eq_getElem hl, hv, av, ?_⟩
    rw [List.getElem_range, List.getD_eq_getElem?_getD, List.getElem?_eq_getElem hl]
    rfl
  refine ⟨fun i d I3 H3 le s e => ?_, fun i d I3 H3 x H4 le s e y => ?_, fun I3 H3 le s => ?_⟩
  · obtain ⟨e1, v, _, hv, _⟩ := get e
    exact ⟨xs, v, (sub_le s).t (le.le.t h), hv⟩
  · obtain ⟨e1, v, _, hv, av, rfl⟩ := get e
    obtain ⟨T, x1, rfl, hT, rfl, y2⟩ := y
    have z := y2 _ ((sub_le s).t (le.le.t h))
    rw [hv] at z
    cases z
    exact ⟨upd I3 T _, .new s hT, at_tup (.cons (.int _) (.cons (At.le le.le _ av) .nil)) (sub_free s hT)⟩
  · refine ⟨xs, (sub_le s).t (le.le.t h), ?_⟩
    rw [List.length_map, List.length_range, as.length]
theorem ei_enumT {ta : TA} {ds : List D} (h : EvA K ta σ I H [.tup ds]) : EvI K (iEnumT K ta) σ I H ((List.range ds.length).map fun i => D.tup [.int (i : Nat), ds.getD i .non]) := fun I1 H1 g R q =>
  h I1 H1 g _ fun vs I2 H2 g2 as => by
    obtain ⟨v, rfl, av⟩ := as.one
    cases av with
    | tup k1 k2 => exact ⟨_, _, rfl, (sub_le g2.sub).t k1, q _ I2 H2 g2 (itT_D k1 k2)⟩
end
end K98

/-! S9a: texts read, by the table of the texts that the law by hand gives. -/
namespace K98
open PySem PySem.Spec PyProof.Rows L2
def NT : List (Str × Int) := [("9", 9), ("3", 3), ("7", 7)]
def ST : List (Str × Bool × Int × Str) := [("county 9", false, 9, "9"), ("town 3", true, 3, "3"), ("county 7", false, 7, "7")]
def CT : List (Str × List (Bool × Int)) := [("county 9; town 3", [(false, 9), (true, 3)]), ("town 3", [(true, 3)]), ("county 7", [(false, 7)])]
section
variable {K : PySem.W.Frag} {σ : L2.St} {I H I' H' : Hp} {ta tb te : TE} {d e : D}
theorem rd_inSign {c : Nat} {z : Str} : RvD K (fun x y H Q => ∃ (c : Nat) (z : Str), x = .str ⟨#[c]⟩ ∧ y = .str z ∧ Q (.bl (decide (c ∈ z.cps.toList))) H) (.str ⟨#[c]⟩) (.str z) (.bl (decide (c ∈ z.cps.toList))) := fun x y I H s hx hy Q q => by
  cases hx
  cases hy
  exact ⟨c, z, rfl, rfl, q _ I H (.refl s) (.bl _)⟩
theorem rd_addS {a b : Str} (hz : a.length + b.length ≤ 100000) : RvD K (fun x y H Q => ∃ i j, x = .str i ∧ y = .str j ∧ i.length + j.length ≤ sizeLine ∧ Q (.str (i ++ j)) H) (.str a) (.str b) (.str (a ++ b)) := fun x y I H s hx hy Q q => by
  cases hx
  cases hy
  exact ⟨a, b, rfl, rfl, Nat.le_trans hz (by decide), q _ I H (.refl s) (.str _)⟩
theorem rd_ixS {z : Str} {i : Int} {c : Nat} (hz : z.length ≤ 100000) (h : atI z.cps.toList i = some c) : RvD K rIxS (.str z) (.int i) (.str ⟨#[c]⟩) := fun x y I H s hx hy Q q => by
  cases hx
  cases hy
  exact ⟨z, i, c, rfl, rfl, Nat.le_trans hz (by decide), h, q _ I H (.refl s) (.str _)⟩
theorem rc_lenS {z : Str} (hz : z.length ≤ 100000) : RcD K (fun xs H Q => ∃ z, xs = [.str z] ∧ z.length ≤ sizeLine ∧ Q (.int z.length) H) [.str z] (.int z.length) := fun xs I H s as Q q => by
  obtain ⟨v, rfl, av⟩ := as.one
  cases av
  exact ⟨z, rfl, Nat.le_trans hz (by decide), q _ I H (.refl s) (.int _)⟩
theorem rc_intS {z : Str} {n : Int} (hn : PySem.intText? z = some n) (hz : z.length ≤ 640) : RcD K (fun xs H Q => ∃ a n, xs = [.str a] ∧ PySem.intText? a = some n ∧ a.length ≤ 640 ∧ Q (.int n) H) [.str z] (.int n) := fun xs I H s as Q q => by
  obtain ⟨v, rfl, av⟩ := as.one
  cases av
  exact ⟨z, n, rfl, hn, hz, q _ I H (.refl s) (.int _)⟩
theorem ed_slStr {tl th : TO} {z : Str} {lo hi : Option Int} (h : EvD K te σ I H (.str z)) (h1 : EvO tl σ I H lo) (h2 : EvO th σ I H hi) (hz : z.length ≤ 100000) : EvD K (L2.tSl rSlS te tl th) σ I H (.str (cutS z lo hi)) := fun I1 H1 g Q q =>
  h I1 H1 g _ fun v I2 H2 g2 a => h1 I2 H2 (g.tr g2) _ fun I3 H3 g3 => h2 I3 H3 ((g.tr g2).tr g3) _ fun I4 H4 g4 => by
    cases a
    exact ⟨z, rfl, Nat.le_trans hz (by decide), q _ I4 H4 ((g2.tr g3).tr g4) (.str _)⟩
theorem ed_starts {a b : Str} (h1 : EvD K ta σ I H (.str a)) (h2 : EvD K tb σ I H (.str b)) : EvD K (tM1 (fun x xs H Q => ∃ a b, x = .str a ∧ xs = [.str b] ∧ Q (.bl (Txt.startswith a b)) H) ta tb) σ I H (.bl (Txt.startswith a b)) := fun I1 H1 g Q q =>
  h1 I1 H1 g _ fun v I2 H2 g2 a1 => by
    cases a1
    refine ⟨⟨a, rfl⟩, h2 I2 H2 (g.tr g2) _ fun w I3 H3 g3 a2 => ?_⟩
    cases a2
    exact ⟨a, b, rfl, rfl, q _ I3 H3 (g2.tr g3) (.bl _)⟩
theorem ed_split {a b : Str} (h1 : EvD K ta σ I H (.str a)) (h2 : EvD K tb σ I H (.str b)) (hb : (b.length == 0) = false) (hz : a.length ≤ 100000) : EvD K (tM1 (fun x xs H Q => ∃ a b, x = .str a ∧ xs = [.str b] ∧ (b.length == 0) = false ∧ a.length + 2 ≤ sizeLine ∧ rNewStrs (Txt.split a b) H Q) ta tb) σ I H (.lst ((Txt.split a b).map D.str)) := fun I1 H1 g Q q =>
  h1 I1 H1 g _ fun v I2 H2 g2 a1 => by
    cases a1
    refine ⟨⟨a, rfl⟩, h2 I2 H2 (g.tr g2) _ fun w I3 H3 g3 a2 => ?_⟩
    cases a2
    exact ⟨a, b, rfl, rfl, hb, by rw [sizeLine_eq]; omega, fun p hp => q _ (upd I3 p _) _ ((g2.tr g3).tr (.new g3.sub hp)) (at_lst (AtL.of_strs _) (sub_free g3.sub hp))⟩
theorem ed_notNoneI {n : Int} (h : EvD K te σ I H (.int n)) : EvD K (tNotN te) σ I H (.bl true) := fun I1 H1 g Q q => h I1 H1 g _ fun v I2 H2 g2 a => by
  cases a
  exact q _ I2 H2 g2 (.bl true)
end
section
variable {P : Program} {w : World} {K : PySem.W.Frag} {mg : Str → Option Value} {base : Heap}
abbrev N_number_in : List Str := ["text", "sign"]
theorem sc_number_in : FnScope N_number_in ["text"] (defScope s_number_in) := ⟨rfl, rfl, rfl, by decide +kernel, rfl, by decide +kernel, by decide +kernel⟩
def R_number_in : List D → D → Prop := fun ds d => ∃ p ∈ NT, ds = [.str p.1] ∧ d = .int p.2
theorem ok_number_in (T : Txt K mg) : Kn P w K mg base 1 38 ["text"] (pureSp K R_number_in) := by
  refine Kn.pure T.f_number_in sc_number_in (fun _ _ _ _ _ _ us hl => match us, hl with | [_], _ => rfl) (fun ds d r => ?_) fun cdv A outer s H0 E hr => ?_
  · obtain ⟨p, _, rfl, _⟩ := r
    rfl
  · refine ⟨_, (pss_cons (ps_if (PW.pt (pw_or (pt_cmpR op_eq (pv 0) pe_str (nomark _)) (pw_or1 (pt_not (pt_val (pe_callB (cr_all rfl) (by rfl) T.z_all (by decide +kernel) (pa_cons (pe_lc (own := [("sign", 1)]) (g := (gName 1)) (tt := tYes) rfl sc_number_in.nd (pi_str (pv 0)) (blkOk_by (N := N_number_in) (sc := defScope s_number_in) (by decide +kernel)) (fun _ _ _ _ _ => (pg_name (i := 1) sc_number_in.nd rfl (Or.inl rfl))) (fun _ _ _ _ _ => pts_nil) (fun _ _ _ _ _ => (pe_cmpR op_in_sign (pv 1) pe_str (by rfl)))) pa_nil))))))) (pss_one (ps_ret pe_non)) pss_nil) (pss_one (ps_ret (pe_ifExp (PW.pt (pw_and (pt_cmpR op_eq (pe_ix ix_str (pv 0) pe_int (fun _ _ => rfl)) pe_str (nomark _)) (pw_and1 (pt_cmpR op_ne (pv 0) pe_str (nomark _))))) pe_non (pe_callTy call_int_str (by rfl) T.z_int (by decide +kernel) (pa_cons (pv 0) pa_nil)))))), ?_⟩
    rintro vs ds d I s1 a ⟨p, hp, rfl, rfl⟩
    obtain ⟨v, rfl, av⟩ := a.one
    cases av
    have hf : decide (p.1 = "") = false ∧ (p.1.cps.toList.map fun c => decide (c ∈ ("0123456789" : Str).cps.toList)).all id = true ∧ p.1.length ≤ 640 ∧ PySem.intText? p.1 = some p.2 ∧ ∃ c, atI p.1.cps.toList 0 = some c ∧ decide ((⟨#[c]⟩ : Str) = "0") = false := by
      have : p = (("9" : Str), (9 : Int)) ∨ p = (("3" : Str), (3 : Int)) ∨ p = (("7" : Str), (7 : Int)) := by simpa [NT] using hp
      rcases this with rfl | rfl | rfl
      · exact ⟨by decide, by decide, by decide, by decide +kernel, 57, by decide, by decide⟩
      · exact ⟨by decide, by decide, by decide, by decide +kernel, 51, by decide, by decide⟩
      · exact ⟨by decide, by decide, by decide, by decide +kernel, 55, by decide, by decide⟩
    obtain ⟨f1, f2, f3, f4, c, f5, f6⟩ := hf
    have hl : p.1.cps.toList.length = p.1.length := by simp [Str.length]
    refine fun Dn q => sq_ifN ((eb_or (a := false) (b := false) ((eb_test (K := K) (ed_op (ed_var rfl (.str p.1)) ed_str rd_eqS)).is f1) fun _ => (eb_not (eb_B (K := K) (ed_cb (ea_cons ((ed_lcNY (K := K) p.1.cps.toList (fun c => D.str ⟨#[c]⟩) (fun c => .bl (decide (c ∈ ("0123456789" : Str).cps.toList))) (ei_str (ed_var rfl (.str p.1))) (by omega) (fun _ => rfl) fun c hc y I1 H1 g1 ay => ?_).is (congrArg D.lst (List.map_map (f := fun c => decide (c ∈ ("0123456789" : Str).cps.toList)) (g := D.bl)).symm)) ea_nil) rc_all))).is ?_).is rfl) s1 fun I1 H1 g1 => ?_
    · cases ay
      exact ed_op (ed_var rfl (.str _)) ed_str rd_inSign
    · rw [f2]
      rfl
    · exact sx_ret g1 q (ed_if (b := false) ((eb_and (a := false) (b := false) ((eb_test (K := K) (ed_op (ed_op (ed_var rfl (.str p.1)) ed_int (rd_ixS (by omega) f5)) ed_str rd_eqS)).is f6) fun z => nomatch z).is rfl) (fun z => nomatch z) fun _ => ed_cb (ea_cons (ed_var rfl (.str p.1)) ea_nil) (rc_intS f4 f3))
abbrev N_Step_of : List Str := ["text", "kind", "least"]
theorem sc_Step_of : FnScope N_Step_of ["text"] (defScope s_Step_of) := ⟨rfl, rfl, rfl, by decide +kernel, rfl, by decide +kernel, by decide +kernel⟩
def R_Step_of : List D → D → Prop := fun ds d => ∃ p ∈ ST, ds = [.str p.1] ∧ d = stepD (p.2.1, p.2.2.1)
theorem ok_Step_of (T : Txt K mg) (G_number_in : Kn P w K mg base 1 38 ["text"] (pureSp K R_number_in)) (G_Step_init : Kn P w K mg base 1 487 ["self", "kind", "least"] (initSp K 538 R_Step_init)) : Kn P w K mg base 4 494 ["text"] (pureSp K R_Step_of) := by
  refine Kn.pure T.f_Step_of sc_Step_of (fun _ _ _ _ _ _ us hl => match us, hl with | [_], _ => rfl) (fun ds d r => ?_) fun cdv A outer s H0 E hr => ?_
  · obtain ⟨p, _, rfl, _⟩ := r
    rfl
  · refine ⟨_, (pss_cons (ps_for PassesOwn.never rfl (pi_tup (pe_glob (v := .ref 473) rfl T.g_KINDS rfl)) (pg_name (i := 1) sc_Step_of.nd rfl (Or.inl rfl)) (pss_one (ps_if (pt_val (pe_m1 PySem.F.slot_str_startswith PySem.F.type_str_startswith mt_startswith (pv 0) (pe_op op_add_str (pv 1) pe_str))) (pss_cons (ps_set (i := 2) sc_Step_of.nd rfl (Or.inl rfl) (pc G_number_in (hr.mono (by decide)) T.g_number_in (pa_cons (pe_slice sl_str (pv 0) (po_some (pe_op op_add (pe_callB call_len_str (by rfl) T.z_len PySem.boot_len (pa_cons (pv 1) pa_nil)) pe_int)) po_none) pa_nil))) (pss_one (ps_if (PW.pt (pw_and (pt_cmp (pc_notN (pv 2))) (pw_and1 (pt_cmpR op_gt (pv 2) pe_int (nomark _))))) (pss_one (ps_ret (pmk T.k_Step G_Step_init (hr.mono (by decide)) T.g_Step (pa_cons (pv 1) (pa_cons (pv 2) pa_nil))))) pss_nil))) pss_nil))) (pss_one ps_never)), ?_⟩
    rintro vs ds d I s1 a ⟨p, hp, rfl, rfl⟩
    obtain ⟨v, rfl, av⟩ := a.one
    cases av
    have hf : p.1.length ≤ 100 ∧ (Txt.startswith p.1 ("town" ++ " ") = p.2.1) ∧ (p.2.1 = false → Txt.startswith p.1 ("county" ++ " ") = true) ∧ cutS p.1 (some (((kd p.2.1).length : Nat) + 1)) none = p.2.2.2 ∧ (p.2.2.2, p.2.2.1) ∈ NT ∧ 0 < p.2.2.1 := by
      have : p = (("county 9" : Str), false, (9 : Int), ("9" : Str)) ∨ p = (("town 3" : Str), true, (3 : Int), ("3" : Str)) ∨ p = (("county 7" : Str), false, (7 : Int), ("7" : Str)) := by simpa [ST] using hp
      rcases this with rfl | rfl | rfl
      · exact ⟨by decide, by decide, fun _ => by decide, by decide, by decide, by decide⟩
      · exact ⟨by decide, by decide, nofun, by decide, by decide, by decide⟩
      · exact ⟨by decide, by decide, fun _ => by decide, by decide, by decide, by decide⟩
    obtain ⟨f1, f2, f3, f4, f5, f6⟩ := hf
    refine fun Dn q => (sq_for (K := K) (M := []) ([("town" : Str), "county"]) D.str (fun i σ1 I1 H1 => ∃ q1 q2, Gr [] I H0 I1 H1 ∧ (i = 0 ∨ (i = 1 ∧ p.2.1 = false)) ∧ σ1 = [some (.str p.1), q1, q2]) (ei_tup (ed_c (KINDS_at T _))) s1 (fun I1 H1 g1 => ⟨_, _, g1, .inl rfl, rfl⟩) ?_ ?_)
    · rintro i k x σ1 I1 H1 hk ⟨q1, q2, g1, hi, rfl⟩ I2 H2 g2 a2 N hN
      refine bd_name x I2 H2 g2.sub a2 _ ?_
      rintro σ2 ⟨x1, ax1, rfl⟩
      cases ax1
      have body : ∀ t, k = kd t → p.2.1 = t → ∀ I3 H3, Gr [] I2 H2 I3 H3 → tSeq (tAsg (tCall (pureSp K R_number_in) [] E0 (tCons (L2.tSl rSlS (tVar 0) (tPart (tOp (rI0 fun i j => .int (i + j)) (tCB (fun xs H Q => ∃ z, xs = [.str z] ∧ z.length ≤ sizeLine ∧ Q (.int z.length) H) (tCons (tVar 1) tNil)) (tC (.int 1)))) tNoPart) tNil)) (gName 2)) (tIfS (tAnd (tB (tNotN (tVar 2))) (tTest (tOp (rI0 fun i j => .bl (decide (i > j))) (tVar 2) (tC (.int 0))))) (tRet (tMake 538 (initSp K 538 R_Step_init) [] E0 (tCons (tVar 1) (tCons (tVar 2) tNil)))) tNext) { Dn with nx := N, ct := N, bk := fun _ _ => True } [some (.str p.1), some (.str k), q2] H3 := by
        rintro t rfl ht I3 H3 g3
        refine sq_int (K := K) (ed_call (ea_cons ((ed_slStr (ed_var rfl (.str p.1)) (eo_some (K := K) (ed_op (ed_cb (ea_cons (ed_var rfl (.str (kd t))) ea_nil) (rc_lenS (by cases t <;> decide))) ed_int rd_I0)) eo_none (by omega)).is (congrArg D.str (by rw [← ht]; exact f4))) ea_nil) ⟨_, f5, rfl, rfl⟩) g3.sub fun I4 H4 g4 => ?_
        refine sx_if (b := true) ((eb_and (a := true) (b := true) (eb_B (K := K) (ed_notNoneI (ed_var rfl (.int p.2.2.1)))) fun _ => (eb_test (K := K) (ed_op (ed_var rfl (.int p.2.2.1)) ed_int rd_B0)).is (decide_eq_true f6)).is rfl) g4.sub (fun _ I5 H5 g5 => ?_) fun z => nomatch z
        exact sx_ret ((((g1.tr g2).tr g3).tr g4).tr g5) q (ed_make (ea_cons (ed_var rfl (.str (kd t))) (ea_cons (ed_var rfl (.int p.2.2.1)) ea_nil)) ⟨t, p.2.2.1, rfl, f6, by rw [ht]⟩)
      rcases hi with rfl | ⟨rfl, hf⟩
      · cases hk
        refine sx_if (b := p.2.1) ((eb_B (K := K) (ed_starts (ed_var rfl (.str p.1)) (ed_op (ed_var rfl (.str "town")) ed_str (rd_addS (by decide))))).is f2) g2.sub (fun hb I3 H3 g3 => body true rfl hb I3 H3 g3) fun hb I3 H3 g3 => hN _ I3 H3 g3 ⟨_, _, (g1.tr g2).tr g3, .inr ⟨rfl, hb⟩, rfl⟩
      · cases hk
        refine sx_if (b := true) ((eb_B (K := K) (ed_starts (ed_var rfl (.str p.1)) (ed_op (ed_var rfl (.str "county")) ed_str (rd_addS (by decide))))).is (f3 hf)) g2.sub (fun hb I3 H3 g3 => body false rfl hf I3 H3 g3) fun z => nomatch z
    · rintro σ1 I1 H1 s1 ⟨q1, q2, g1, hi, rfl⟩
      rcases hi with h | ⟨h, _⟩ <;> cases h
end
end K98

/-! S5SItems: sorted(d.items()), d a dict of small ints to small ints. -/
namespace K98
open PySem PySem.Spec PyProof.Rows L2 LiI
def kI (ks : List (Int × Int)) : List (Key × V) := ks.map fun p => (Sum.inl p.1, V.int p.2)
def rSItems : V → Hp → VK → Prop := fun x H Q => ∃ (d : Addr) (ks : List (Int × Int)), x = .ref d ∧ H d = some (.dK (kI ks)) ∧ ks.length < 64 ∧ (∀ p ∈ ks, 0 ≤ p.1 ∧ p.1 < 100 ∧ 0 ≤ p.2 ∧ p.2 < 100) ∧
  ∀ (H' : Hp) (p : Addr) (ts : List Addr) (ys : List (Int × Int)), ys.Perm ks → ys.Pairwise (fun a b => a.1 * 100 + a.2 ≤ b.1 * 100 + b.2) → (∀ b o, H b = some o → H' b = some o) → H p = none → (∀ t ∈ ts, H t = none) → p ∉ ts → H' p = some (.lst (ts.map V.ref)) →
    Paired (fun (t : Addr) (q : Int × Int) => H' t = some (.tup [.int q.1, .int q.2])) ts ys → Q (.ref p) H'
def tSItems (te : TE) : TE := fun σ H Q => te σ H fun x H1 => rSItems x H1 Q
def prOf (h : Heap) (v : Value) : Int × Int := match TS.intsOf h v with
  | [a, b] => (a, b)
  | _ => (0, 0)
def adOf : Value → Addr
  | .ref a => a
  | _ => 0
section
variable {X : Cx} {e : Expr} {te : TE} {p apos cpos pos : Pos}
theorem tups_laid {pins : List (Addr × Obj)} {σ : L2.St} {H : Hp} {s : Shared} {h' : Heap} {tk : Nat} {kvs : List (Key × V)} {vs : List (Key × Value)} {as : List Addr} (I : Inv X pins σ H s) (kv : KV kvs vs)
    (hk : ∀ b o, s.heap.get? b = some o → h'.get? b = some o) (hl : as.length = vs.length) (hG : PySem.W.KdxG (mixKind X.prog X.w) vs s.heap.objs.size h' as) :
    ∃ H' : Hp, (∀ b o, H b = some o → H' b = some o) ∧ (∀ t ∈ as, H t = none) ∧ (∀ b, b ∉ as → H' b = H b) ∧ Paired (fun (t : Addr) (q : Key × V) => H' t = some (.tup [kV q.1, q.2])) as kvs ∧ Inv X pins σ H' { s with heap := h', toks := tk } := by
  have lk : kvs.length = vs.length := Paired.length kv
  have nd : as.Nodup := List.Pairwise.imp (fun {a b} (h : a < b) => Nat.ne_of_lt h) hG.rise
  have new : ∀ t ∈ as, H t = none := fun t ht => I.hok.fresh (Nat.le_of_lt (hG.above t ht))
  have atP := putT_at as kvs H (by omega) nd
  have off : ∀ b, b ∉ as → putT H as kvs b = H b := fun b h1 => putT_off as kvs H h1
  have low : ∀ b o, s.heap.get? b = some o → b ∉ as := fun b o e z => absurd (Heap.lt_size e) (Nat.not_lt.mpr (Nat.le_of_lt (hG.above b z)))
  have kp : ∀ b u, H b = some u → putT H as kvs b = some u := fun b u e => by
    rw [off b fun z => by rw [new b z] at e; cases e]
    exact e
  refine ⟨putT H as kvs, kp, new, off, atP, ?_⟩
  refine I.call' (ch := []) rfl ⟨fun b o q _ _ _ => hk b o q, fun b o q _ _ _ => ⟨o.slots, hk b o q⟩, fun b o q n _ => ?_, fun b o q _ => ⟨o, hk b o q⟩, fun b xs q => kp b _ q, fun b o u q => kp b _ q, fun b ps q => ⟨#[], by rw [kp b _ q]; simp⟩⟩ (fun b u q => ?_) I.bare fun b z => by simp at z
  · rw [off b (low b o q)]
    exact n
  · by_cases hb : b ∈ as
    · obtain ⟨j, pk, e1, e2, e3⟩ := paired_ix atP hb
      rw [e3] at q
      cases q
      obtain ⟨key, k, x, f1, f2, f3⟩ := hG.pairs j b e1
      obtain ⟨qv, g1, g2, g3⟩ := LiI.paired_get kv e2
      rw [f1] at g1
      cases g1
      have rk : RelV (kV pk.1) key := by
        rw [g2]
        exact relV_key (show keyIs k key = true from f2)
      exact ⟨by show 2 ≤ sizeLine; decide, [key, x], .cons rk (.cons g3 .nil), ⟨_, f3, rfl, _, rfl⟩⟩
    · rw [off b hb] at q
      exact (I.hok b u q).stay (fun d v _ y => hk d v y) (fun d y => kp d _ y) fun d xs y => kp d _ y
theorem paired_map {α β γ : Type} {F : α → γ → Prop} {f : β → γ} : ∀ {xs : List α} {ys : List β}, Paired F xs (ys.map f) → Paired (fun a b => F a (f b)) xs ys
  | [], [], .nil => .nil
  | _ :: _, _ :: _, .cons h t => .cons h (paired_map t)
theorem paired_self {α β : Type} {F : α → β → Prop} {f : α → β} : ∀ {xs : List α}, (∀ x ∈ xs, F x (f x)) → Paired F xs (xs.map f)
  | [], _ => .nil
  | x :: xs, h => .cons (h x List.mem_cons_self) (paired_self fun y hy => h y (List.mem_cons_of_mem _ hy))
theorem paired_eq {α β : Type} {f : α → β} : ∀ {xs : List α} {ys : List β}, Paired (fun a b => f a = b) xs ys → xs.map f = ys
  | _, _, .nil => rfl
  | _, _, .cons h t => by rw [List.map_cons, h, paired_eq t]
theorem paired_imp {α β : Type} {F G : α → β → Prop} : ∀ {xs : List α} {ys : List β}, Paired F xs ys → (∀ x y, x ∈ xs → y ∈ ys → F x y → G x y) → Paired G xs ys
  | _, _, .nil, _ => .nil
  | _, _, .cons h t, k => .cons (k _ _ List.mem_cons_self List.mem_cons_self h) (paired_imp t fun x y hx hy => k x y (List.mem_cons_of_mem _ hx) (List.mem_cons_of_mem _ hy))
/-- sorted(e.items()) -/
theorem pe_sortedItems (hc : X.calm = true) (he : PE X e te) (hg : Gl X "sorted") (hm : X.mg "sorted" = none) (hv : bootBuiltins "sorted" = some (.builtin "sorted")) (hbase : attributeBase e "items" X.env (eval e X.env) = eval e X.env := by rfl) (hline : (apos.endLine == cpos.line) = true := by rfl)
    (hs : starEach [.Call (.Attribute e "items" apos) [] [] cpos] X.env = (false, eval (.Call (.Attribute e "items" apos) [] [] cpos) X.env) :: starEach [] X.env := by rfl) :
    PE X (.Call (.Name "sorted" p) [.Call (.Attribute e "items" apos) [] [] cpos] [] pos) (tSItems te) := by
  refine ⟨fun pins s σ H Q I hq => ?_⟩
  refine wpAny_Call_Name_kw (ld_blt I hg hm hv ?_)
  refine PyProof.Rows.callWith_builtin1 ?_ hs rfl
  rw [hs]
  show wpAny _ _ (spliced ((false, eval (.Call (.Attribute e "items" apos) [] [] cpos) X.env) :: backTo pos (starEach [] X.env))) _ _ s
  refine Calls.spliced_cons ?_
  refine wpAny_Call_method (T := "dict") (id := "dict.items") hbase rfl hline F.plainAttrs_dict F.slot_dict_items F.type_dict_items (thn (he.run pins s σ H _ I hq) fun u s1 ⟨x, H1, I1, rx, d, ks, ex, hd, hz, hB, q⟩ => ?_)
  subst ex
  obtain rfl : u = Value.ref d := rx
  obtain ⟨_, hs0, vs, kv, hdo⟩ := I1.hok d _ hd
  obtain ⟨ep, hat⟩ := hdo.dictAt
  have lk : (kI ks).length = vs.length := Paired.length kv
  have lz : (kI ks).length = ks.length := List.length_map ..
  have I2 : Inv X pins σ H1 { s1 with heap := s1.heap.push { cls := .type "dict_items", data := .fields #[.ref d] } } := I1.kept (t' := s1.toks) fun b ob q => Heap.get?_push_of_some _ q
  refine ⟨hdo.typeIs, hdo.mapOf.noDict, ?_⟩
  show wpAny _ _ (callWith cpos (.builtin "dict.items") [.ref d] [] []) _ X.xe s1
  refine method_meetsIn F.slot_dict_items F.entry_dict_items rfl (PySem.evalArgs_none ⟨rfl, hdo.typeIs, F.args_dict_items_1 _, _, meets_dict_items (mixKind X.prog X.w) d hs0, ⟨vs, hdo⟩, ?_⟩)
  refine Calls.spliced_nil ?_
  refine Calls.call_function_entry PyProof.Rows.kind_sorted PyProof.Rows.plain_sorted PyProof.Rows.entry_sorted (PyProof.Rows.args_sorted1 _) ?_
  unfold Builtin.«sorted»
  refine wpAny_bind (m := checkCount "sorted" 1 1 _) (wpAny_pure ?_)
  refine wpAny_bind (PySem.W.kdx_collect (A := X.A.in1) (knd := mixKind X.prog X.w) (kvs := vs) (ep := ep) (I1.ok.hd hc) ⟨_, Heap.get?_push_size _ rfl, rfl, rfl⟩ (hat.push _) (by rw [sizeLine_eq]; omega) fun h' tk as hk hl hG => ?_)
  obtain ⟨H', k1, k2, k3, k4, J⟩ := tups_laid (tk := tk) I2 kv hk hl hG
  have hlen : (as.map Value.ref).length < 64 := by rw [List.length_map]; omega
  refine wpAny_bind (wpAny_newList ?_ (by rw [sizeLine_eq]; omega))
  have hoL : (h'.push (seqObj "list" (as.map Value.ref).toArray 0)).get? h'.objs.size = some (seqObj "list" (as.map Value.ref).toArray 0) := Heap.get?_push_size _ rfl
  have k5 : Paired (fun (t : Addr) (q : Int × Int) => H' t = some (.tup [.int q.1, .int q.2])) as ks := paired_map (F := fun (t : Addr) (q : Key × V) => H' t = some (.tup [kV q.1, q.2])) k4
  have tupI : ∀ (t : Addr) (q : Int × Int), H' t = some (.tup [V.int q.1, V.int q.2]) → TS.TupInts (h'.push (seqObj "list" (as.map Value.ref).toArray 0)) (.ref t) [q.1, q.2] := fun t q ht => by
    obtain ⟨_, its2, r2, o, ho, hcl, n, hdt⟩ := J.hok _ _ ht
    obtain ⟨u1, u2, rfl, ri, rj⟩ := vals2 r2
    obtain ⟨t1, rfl⟩ := ri
    obtain ⟨t2, rfl⟩ := rj
    exact ⟨t, _, rfl, ⟨o, Heap.get?_push_of_some _ ho, hcl, n, hdt⟩, .cons _ _ (.cons _ _ .nil)⟩
  have one : ∀ t ∈ as, ∃ q ∈ ks, H' t = some (.tup [V.int q.1, V.int q.2]) := fun t ht => by
    obtain ⟨j, y, e1, e2, e3⟩ := paired_ix k5 ht
    exact ⟨y, List.mem_of_getElem? e2, e3⟩
  have ok : TS.TupsOk (h'.push (seqObj "list" (as.map Value.ref).toArray 0)) 2 100 (as.map Value.ref) := fun v hv => by
    obtain ⟨t, ht, rfl⟩ := List.mem_map.mp hv
    obtain ⟨y, hy, e3⟩ := one t ht
    refine ⟨_, tupI t y e3, rfl, fun m hm => ?_⟩
    obtain ⟨b1, b2, b3, b4⟩ := hB y hy
    rcases List.mem_cons.mp hm with rfl | hm
    · exact ⟨b1, b2⟩
    · rw [List.mem_singleton.mp hm]
      exact ⟨b3, b4⟩
  show wpAny _ _ _ _ _ { s1 with heap := h'.push (seqObj "list" (as.map Value.ref).toArray 0), toks := tk }
  refine wpAny_bind (wpAny_holding (TS.call_sort_tups (s := { s1 with heap := h'.push (seqObj "list" (as.map Value.ref).toArray 0), toks := tk }) hoL hlen (by decide) ok fun out a1 a2 => ?_))
  obtain ⟨c, hcq⟩ := sortedHeap_at (vs := as.map Value.ref) (out := out) hoL
  have mem : ∀ v ∈ out.toList, ∃ t ∈ as, v = .ref t := fun v hv => by
    obtain ⟨t, ht, e⟩ := List.mem_map.mp (a1.mem_iff.mp hv)
    exact ⟨t, ht, e.symm⟩
  have pr : ∀ (t : Addr) (q : Int × Int), H' t = some (.tup [V.int q.1, V.int q.2]) → prOf (h'.push (seqObj "list" (as.map Value.ref).toArray 0)) (.ref t) = q := fun t q ht => by
    unfold prOf
    rw [(tupI t q ht).ints]
  have er : (as.map Value.ref).map (prOf (h'.push (seqObj "list" (as.map Value.ref).toArray 0))) = ks := by
    rw [List.map_map]
    exact paired_eq (paired_imp k5 fun x y hx hy h => pr x y h)
  have et : out.toList = (out.toList.map adOf).map Value.ref := by
    rw [List.map_map]
    refine (List.map_congr_left fun v hv => ?_).symm.trans (List.map_id _) |>.symm
    obtain ⟨t, _, rfl⟩ := mem v hv
    rfl
  have hts : ∀ t ∈ out.toList.map adOf, t ∈ as := fun t ht => by
    obtain ⟨v, hv, rfl⟩ := List.mem_map.mp ht
    obtain ⟨t, h, rfl⟩ := mem v hv
    exact h
  have hpn : h'.objs.size ∉ as := fun z => by
    obtain ⟨y, _, e⟩ := one _ z
    have := J.hok.fresh (Nat.le_refl h'.objs.size)
    rw [e] at this
    cases this
  have hHn : H' h'.objs.size = none := J.hok.fresh (Nat.le_refl _)
  refine wpAny_pure ⟨_, rfl, .ref h'.objs.size, upd H' h'.objs.size (.lst ((out.toList.map adOf).map V.ref)), J.laid (t' := tk) (fun b u e => ?_) (Nat.le_refl _)
    (show ObjOk X.prog X.w _ _ _ (.lst ((out.toList.map adOf).map V.ref)) from ⟨?_, out.toList, c, ?_, by rw [Array.toArray_toList]; exact hcq⟩), rfl, q _ _ (out.toList.map adOf) (out.toList.map (prOf (h'.push (seqObj "list" (as.map Value.ref).toArray 0)))) ?_ ?_ ?_ ?_ (fun t ht => k2 t (hts t ht)) (fun z => hpn (hts _ z)) upd_same ?_⟩
  · have hb : b < h'.objs.size := Heap.lt_size e
    show (sortedHeap (h'.push (seqObj "list" (as.map Value.ref).toArray 0)) h'.objs.size (as.map Value.ref) out).get? b = some u
    rw [sortedHeap_old (Nat.ne_of_lt hb) (by rw [size_push']; exact Nat.lt_succ_of_lt hb)]
    exact Heap.get?_push_of_some _ e
  · rw [List.length_map, List.length_map, a1.length_eq, sizeLine_eq]
    omega
  · have z := vals_refs (out.toList.map adOf)
    rw [← et] at z
    exact z
  · rw [← er]
    exact a1.map _
  · rw [List.pairwise_map]
    refine List.Pairwise.imp_of_mem (fun {u v} hu hv hle => ?_) a2
    obtain ⟨t, ht, rfl⟩ := mem u hu
    obtain ⟨t', ht', rfl⟩ := mem v hv
    obtain ⟨y, _, e3⟩ := one t ht
    obtain ⟨y', _, e3'⟩ := one t' ht'
    have f1 := (tupI t y e3).ints
    have f2 := (tupI t' y' e3').ints
    rw [pr t y e3, pr t' y' e3']
    simp only [f1, f2, TS.code, List.length_cons, List.length_nil] at hle
    omega
  · exact fun b o z => by
      rw [upd_ne (ne_of_none (k1 b o z) hHn)]
      exact k1 b o z
  · cases z : H1 h'.objs.size with
    | none => rfl
    | some o =>
      have := k1 _ _ z
      rw [hHn] at this
      cases this
  · show Paired _ (out.toList.map adOf) (out.toList.map _)
    have key : ∀ l : List Value, (∀ v ∈ l, v ∈ out.toList) → Paired (fun (t : Addr) (q : Int × Int) => upd H' h'.objs.size (.lst ((out.toList.map adOf).map V.ref)) t = some (.tup [.int q.1, .int q.2])) (l.map adOf) (l.map (prOf (h'.push (seqObj "list" (as.map Value.ref).toArray 0)))) := fun l hl => by
      induction l with
      | nil => exact .nil
      | cons v l ih =>
        obtain ⟨t, ht, rfl⟩ := mem v (hl v List.mem_cons_self)
        obtain ⟨y, _, e3⟩ := one t ht
        refine .cons ?_ (ih fun u hu => hl u (List.mem_cons_of_mem _ hu))
        rw [pr t y e3]
        show upd H' _ _ t = _
        rw [upd_ne (fun z : t = h'.objs.size => hpn (z ▸ ht))]
        exact e3
    exact key _ fun v hv => hv
end
end K98

/-! S9b: counties, and what steps and scripts make of them. -/
namespace K98
open PySem PySem.Spec PyProof.Rows L2
structure RunsOk (runs ys : List P2) : Prop where
  small : ∀ p ∈ runs, 1 ≤ p.1 ∧ p.1 < 100 ∧ 1 ≤ p.2 ∧ p.2 < 100
  nd : (runs.map (·.1)).Nodup
  len : runs.length < 60
  perm : ys.Perm runs
  up : ys.Pairwise fun a b => a.1 * 100 + a.2 ≤ b.1 * 100 + b.2
theorem RunsOk.self {runs ys : List P2} (h : RunsOk runs ys) : RunsOk ys ys :=
  ⟨fun p hp => h.small p (h.perm.mem_iff.mp hp), (h.perm.map _).nodup_iff.mpr h.nd, by rw [h.perm.length_eq]; exact h.len, .refl _, h.up⟩
theorem RunsOk.filter {ys : List P2} (h : RunsOk ys ys) (p : P2 → Bool) : RunsOk (ys.filter p) (ys.filter p) :=
  ⟨fun q hq => h.small q (List.mem_filter.mp hq).1, (List.filter_sublist.map _).nodup h.nd, Nat.lt_of_le_of_lt (List.length_filter_le _ _) h.len, .refl _, h.up.sublist List.filter_sublist⟩
theorem RunsOk.nil : RunsOk [] [] := ⟨fun _ h => (nomatch h), .nil, by decide, .refl _, .nil⟩
def countyD (ys : List P2) : D := .ins 415 [("own_runs", encF ys)]
def rowsOf (ys : List P2) : Int := (ys.map fun p => p.1 * p.2).sum
def stepC (s : Bool × Int) (ys : List P2) : List P2 := if s.1 then ys.filter (fun p => decide (p.1 ≥ s.2)) else if rowsOf ys ≥ s.2 then ys else []
theorem RunsOk.step {ys : List P2} (h : RunsOk ys ys) (s : Bool × Int) : RunsOk (stepC s ys) (stepC s ys) := by
  unfold stepC
  split
  · exact h.filter _
  · split
    · exact h
    · exact .nil
section
variable {X : Cx} {tg : Expr}
/-- a list or a tuple walked -/
def iSeq (K : PySem.W.Frag) (tl : TE) : TI := fun σ H R => tl σ H fun x H1 => ∃ a, x = .ref a ∧ (((∃ xs, SqL K H1 a xs) ∧ R (Itl K a) H1) ∨ ((∃ xs, SqT K H1 a xs) ∧ R (Itt K a) H1))
theorem pi_seq {l : Expr} {tl : TE} (hl : PE X l tl) : PI X tg l (iSeq X.K tl) := by
  refine ⟨fun pins s σ H R I h => ?_⟩
  refine thn (hl.run pins s σ H _ I h) fun v s1 ⟨x, H1, I1, r1, q1⟩ => ?_
  obtain ⟨a, e, q⟩ := q1
  subst e
  cases r1
  rcases q with ⟨⟨xs, hq⟩, q⟩ | ⟨⟨xs, hq⟩, q⟩
  · obtain ⟨its, rv, p, hz⟩ := I1.list hq
    refine wpAny_pyIter_list p.isList ?_
    refine ⟨s1.heap.objs.size, [s1.heap.objs.size], _, _, H1, rfl, I1.kept (t' := s1.toks) fun b o e => Heap.get?_push_of_some _ e, turn_list a _, ⟨_, Heap.get?_push_size _ rfl, rfl, rfl⟩, fun b hb => ?_, q⟩
    have e : b = s1.heap.objs.size := by simpa using hb
    subst e
    exact I1.fpOk (Nat.le_refl _) (I1.hok.fresh (Nat.le_refl _))
  · obtain ⟨its, rv, p, hz⟩ := I1.tuple hq
    refine wpAny_pyIter_tuple (show s1.heap.IsTuple a its.toArray from p) ?_
    refine ⟨s1.heap.objs.size, [s1.heap.objs.size], _, _, H1, rfl, I1.kept (t' := s1.toks) fun b o e => Heap.get?_push_of_some _ e, turn_tuple a _, ⟨_, Heap.get?_push_size _ rfl, rfl, rfl⟩, fun b hb => ?_, q⟩
    have e : b = s1.heap.objs.size := by simpa using hb
    subst e
    exact I1.fpOk (Nat.le_refl _) (I1.hok.fresh (Nat.le_refl _))
end
section
variable {K : PySem.W.Frag} {σ : L2.St} {I H I' H' : Hp} {ta tb te tc : TE} {d e : D}
theorem ei_seqL {ds : List D} (h : EvD K te σ I H (.lst ds)) : EvI K (iSeq K te) σ I H ds := fun I1 H1 g R q => h I1 H1 g _ fun v I2 H2 g2 x => by
  obtain ⟨a, e, z, r⟩ : iList K (tC v) σ H2 R := ei_list (ed_c x) I2 H2 (.refl g2.sub) R fun J I3 H3 g3 it => q J I3 H3 (g2.tr g3) it
  exact ⟨a, e, .inl ⟨z, r⟩⟩
theorem ei_seqT {ds : List D} (h : EvD K te σ I H (.tup ds)) : EvI K (iSeq K te) σ I H ds := fun I1 H1 g R q => h I1 H1 g _ fun v I2 H2 g2 x => by
  obtain ⟨a, e, z, r⟩ : iTup K (tC v) σ H2 R := ei_tup (ed_c x) I2 H2 (.refl g2.sub) R fun J I3 H3 g3 it => q J I3 H3 (g2.tr g3) it
  exact ⟨a, e, .inr ⟨z, r⟩⟩
/-- d.get(k, e) with k not there, the dict beside what is known -/
theorem ed_dget2X {i : Nat} {x : Int} {a : Addr} {kvs : List (Key × V)} (hv : σ[i]? = some (some (.ref a))) (ha : H a = some (.dK kvs)) (na : I a = none) (hn : valV kvs (.inl x) = none) (h2 : EvD K tb σ I H (.int x)) (h3 : EvD K tc σ I H d) : EvD K (tDGet2 (tVar i) tb tc) σ I H d := fun I1 H1 g Q q =>
  ⟨.ref a, hv, a, rfl, .inl ⟨kvs, .inl (g.keep a _ na ha (by simp))⟩, h2 I1 H1 g _ fun y I2 H2 g2 a2 => h3 I2 H2 (g.tr g2) _ fun z I3 H3 g3 a3 => by
    cases a2
    have g03 := (g.tr g2).tr g3
    exact ⟨none, .inl ⟨kvs, .inl x, .inl (g03.keep a _ na ha (by simp)), rfl, hn.symm⟩, q z I3 H3 (g2.tr g3) a3⟩⟩
/-- d[k] = e, the dict beside what is known, k an int -/
theorem sx_dputI {i : Nat} {x : Int} {a : Addr} {kvs : List (Key × V)} {Dn : Ends} (hv : σ[i]? = some (some (.ref a))) (ha : H a = some (.dK kvs)) (na : I a = none) (hz : kvs.length < 100000) (h1 : EvD K te σ I H d) (h2 : EvD K tb σ I H (.int x)) (s : Sub I H)
    (k : ∀ v I1 H1, Gr [] I H I1 H1 → At K I1 v d → H1 a = some (.dK kvs) → I1 a = none → Dn.nx σ (upd H1 a (.dK (putK kvs (.inl x) v)))) : sDPut (tVar i) tb te Dn σ H :=
  h1 I H (.refl s) _ fun v I1 H1 g1 a1 => ⟨.ref a, hv, h2 I1 H1 g1 _ fun y I2 H2 g2 a2 => by
    cases a2
    have g02 := g1.tr g2
    exact ⟨a, _, rfl, .inl ⟨kvs, .inl x, g02.keep a _ na ha (by simp), rfl, Nat.lt_of_lt_of_le hz (by decide), rfl⟩, k v I2 H2 g02 (a1.gr g2) (g02.keep a _ na ha (by simp)) (g02.out a _ na ha)⟩⟩
theorem Gr.grow {M : List Addr} (s : Sub I H) (k : ∀ b o, H b = some o → H' b = some o) : Gr M I H I H' := ⟨fun _ _ q => q, fun a o q => k a o (s a o q), fun _ _ q _ => q, fun a o _ q _ => k a o q⟩
/-- tuples of two ints, laid beside what is known, are known from now on -/
theorem know_tups {I0 H0 : Hp} : ∀ {ts : List Addr} {ys : List P2}, Paired (fun (t : Addr) (q : Int × Int) => H t = some (.tup [.int q.1, .int q.2])) ts ys → ∀ {I : Hp}, Gr [] I0 H0 I H → (∀ t ∈ ts, H0 t = none) →
    ∃ I', Gr [] I0 H0 I' H ∧ Le I I' ∧ AtL K I' (ts.map V.ref) (ys.map encP) ∧ (∀ b, b ∉ ts → I' b = I b)
  | _, _, .nil, I, g, _ => ⟨I, g, ⟨fun _ _ _ h => h, fun _ _ _ _ h => h, fun _ _ h => h⟩, .nil, fun _ _ => rfl⟩
  | t :: ts, p :: ys, .cons ht hr, I, g, hn => by
    obtain ⟨I1, g1, le1, a1, o1⟩ := know_tups hr g fun x hx => hn x (List.mem_cons_of_mem _ hx)
    cases q : I1 t with
    | some o =>
      have e : o = .tup [.int p.1, .int p.2] := by
        have z := g1.sub _ _ q
        rw [ht] at z
        exact (Option.some.inj z).symm
      rw [e] at q
      exact ⟨I1, g1, le1, .cons (.tup (.of q) (.cons (.int _) (.cons (.int _) .nil))) a1, fun b hb => o1 b fun z => hb (List.mem_cons_of_mem _ z)⟩
    | none =>
      refine ⟨upd I1 t (.tup [.int p.1, .int p.2]), g1.know (hn t List.mem_cons_self) ht q, le1.trans (upd_le q), .cons (at_tup (.cons (.int _) (.cons (.int _) .nil)) q) (AtL.le (upd_le q) _ a1), fun b hb => ?_⟩
      rw [upd_ne fun z => hb (by rw [z]; exact List.mem_cons_self)]
      exact o1 b fun z => hb (List.mem_cons_of_mem _ z)
theorem ed_callO {X : Cx} {C : Addr} {R : List D → D → Prop} {t : TA} {dfs : List (Str × D)} {ds : List D} (ho : EvD K ta σ I H (.ins C dfs)) (ha : EvA K t σ I H ds) (hr : R (.ins C dfs :: ds) d) : EvD K (StX.tCallO X C (pureSp K R) E0 ta t) σ I H d := fun I1 H1 g Q q =>
  ho I1 H1 g _ fun v I2 H2 g2 a => by
    cases a with
    | ins h1 h2 =>
      exact ⟨_, rfl, ha I2 H2 (g.tr g2) _ fun vs I3 H3 g3 as => ⟨.inr ⟨_, _, g3.sub _ _ (g3.ext _ _ h1)⟩, I3, _, d, g3.sub, .cons ((At.ins h1 h2).gr g3) as, hr, fun v I4 H4 g4 a => q v I4 H4 ((g2.tr g3).tr g4) a⟩⟩
end
theorem kI_val {l : List P2} {x : Int} (h : x ∉ l.map (·.1)) : valV (kI l) (.inl x) = none := by
  unfold valV kI
  rw [Option.map_eq_none_iff, List.find?_eq_none]
  intro kv hkv hc
  obtain ⟨p, hp, rfl⟩ := List.mem_map.mp hkv
  have e : (Sum.inl p.1 : Key) = .inl x := by simpa using hc
  exact h (List.mem_map.mpr ⟨p, hp, Sum.inl.inj e⟩)
theorem kI_put {l : List P2} {x : Int} {n : Int} (h : x ∉ l.map (·.1)) : putK (kI l) (.inl x) (.int n) = kI (l ++ [(x, n)]) := by
  rw [putK_snoc]
  · unfold kI
    rw [List.map_append]
    rfl
  · intro hc
    unfold kI at hc
    rw [List.map_map] at hc
    obtain ⟨p, hp, e⟩ := List.mem_map.mp hc
    exact h (List.mem_map.mpr ⟨p, hp, Sum.inl.inj e⟩)
theorem runs_uniq {runs ys zs : List P2} (h : RunsOk runs ys) (hp : zs.Perm runs) (hu : zs.Pairwise fun a b => a.1 * 100 + a.2 ≤ b.1 * 100 + b.2) : zs = ys := by
  refine List.Perm.eq_of_pairwise (le := fun a b : P2 => a.1 * 100 + a.2 ≤ b.1 * 100 + b.2) (fun a b ha hb h1 h2 => ?_) hu h.up (hp.trans h.perm.symm)
  have s1 := h.small a (hp.mem_iff.mp ha)
  have s2 := h.small b (h.perm.mem_iff.mp hb)
  obtain ⟨a1, a2⟩ := a
  obtain ⟨b1, b2⟩ := b
  dsimp only at h1 h2 s1 s2
  have : a1 = b1 := by omega
  subst this
  have : a2 = b2 := by omega
  subst this
  rfl
section
variable {P : Program} {w : World} {K : PySem.W.Frag} {mg : Str → Option Value} {base : Heap}
abbrev N_summed : List Str := ["pairs", "table", "size", "many"]
theorem sc_summed : FnScope N_summed ["pairs"] (defScope s_summed) := ⟨rfl, rfl, rfl, by decide +kernel, rfl, by decide +kernel, by decide +kernel⟩
def R_summed : List D → D → Prop := fun ds d => ∃ runs ys : List P2, (ds = [.lst (runs.map encP)] ∨ ds = [.tup (runs.map encP)]) ∧ RunsOk runs ys ∧ d = encF ys
theorem ok_summed (T : Txt K mg) : Kn P w K mg base 1 278 ["pairs"] (pureSp K R_summed) := by
  refine Kn.pure T.f_summed sc_summed (fun _ _ _ _ _ _ us hl => match us, hl with | [_], _ => rfl) (fun ds d r => ?_) fun cdv A outer s H0 E hr => ?_
  · obtain ⟨runs, ys, rfl | rfl, _⟩ := r <;> rfl
  · refine ⟨_, (pss_cons (ps_set (i := 1) sc_summed.nd rfl (Or.inl rfl) pe_dnewK) (pss_cons (ps_for PassesOwn.never rfl (pi_seq (pv 0)) (pg_tup rfl (pgs_cons (pg_name (i := 2) sc_summed.nd rfl (Or.inl rfl)) (pgs_cons (pg_name (i := 3) sc_summed.nd rfl (Or.inl rfl)) pgs_nil))) (pss_one (ps_dput (hu_of hr) (pv 1) (pv 2) (pe_op op_add (pe_dget2 (hu_of hr) (pv 1) (pv 2) pe_int ⟨rfl, rfl, rfl, rfl⟩) (pv 3)) rfl))) (pss_one (ps_ret (pe_callTy call_tuple_of (by rfl) T.z_tuple (by decide +kernel) (pa_cons (pe_sortedItems rfl (pv 1) (by rfl) T.z_sorted (by decide +kernel)) pa_nil)))))), ?_⟩
    rintro vs ds d I s1 a ⟨runs, ys, hds, ok, rfl⟩
    have key : ∃ v, vs = [v] ∧ ∀ {σ : L2.St} {I2 H2 : Hp}, Gr [] I H0 I2 H2 → σ[0]? = some (some v) → EvI K (iSeq K (tVar 0)) σ I2 H2 (runs.map encP) := by
      rcases hds with rfl | rfl
      · obtain ⟨v, rfl, av⟩ := a.one
        exact ⟨v, rfl, fun g hv => ei_seqL (ed_var hv (av.gr g))⟩
      · obtain ⟨v, rfl, av⟩ := a.one
        exact ⟨v, rfl, fun g hv => ei_seqT (ed_var hv (av.gr g))⟩
    obtain ⟨v, rfl, it⟩ := key
    refine fun Dn q tl htl => ?_
    have nt := sub_free s1 htl
    have g0 : Gr [] I H0 I (upd H0 tl (.dK [])) := .side s1 htl
    refine sq_for (K := K) (M := [tl]) runs encP (fun i σ1 I2 H2 => ∃ q2 q3, Gr [] I H0 I2 H2 ∧ I2 tl = none ∧ H2 tl = some (.dK (kI (runs.take i))) ∧ σ1 = [some v, some (.ref tl), q2, q3]) (it g0 rfl) g0.sub (fun I2 H2 g2 => ⟨_, _, g0.tr g2, g2.out tl _ nt upd_same, g2.keep tl _ nt upd_same (by simp), rfl⟩) ?_ ?_
    · rintro i p x σ1 I2 H2 hp ⟨q2, q3, g2, n2, h2, rfl⟩ I3 H3 g3 a3 N hN
      refine bd_pair x I3 H3 g3.sub a3 _ ?_
      rintro σ2 ⟨x1, y1, ax1, ay1, rfl⟩
      cases ax1
      cases ay1
      have n3 := g3.out tl _ n2 h2
      have h3 := g3.keep tl _ n2 h2 (by simp)
      have hm : p ∈ runs := List.mem_of_getElem? hp
      have hnot : p.1 ∉ (runs.take i).map (·.1) := by
        have z := ok.nd
        have e : runs.take (i + 1) = runs.take i ++ [p] := take_succ hp
        have z2 : ((runs.take (i + 1)).map (·.1)).Nodup := ((List.take_sublist _ _).map _).nodup z
        rw [e, List.map_append] at z2
        intro hc
        exact (List.nodup_append.mp z2).2.2 _ hc p.1 (List.mem_singleton.mpr rfl) rfl
      refine sx_dputI (K := K) (d := .int (0 + p.2)) (x := p.1) rfl h3 n3 ?_ (ed_op (ed_dget2X (K := K) (d := .int 0) rfl h3 n3 (kI_val hnot) (ed_var rfl (.int p.1)) ed_int) (ed_var rfl (.int p.2)) rd_I0) (ed_var rfl (.int p.1)) g3.sub fun v4 I4 H4 g4 a4 h4 n4 => ?_
      · have := ok.len
        have : (kI (runs.take i)).length ≤ runs.length := by
          unfold kI
          rw [List.length_map, List.length_take]
          exact Nat.min_le_right _ _
        omega
      · cases a4
        refine hN _ I4 _ (g4.any.mutM (by simp) n4) ⟨_, _, ((g2.tr g3).tr g4).mut htl n4, n4, ?_, rfl⟩
        rw [upd_same, Int.zero_add, kI_put hnot, take_succ hp]
    · rintro σ1 I2 H2 s2 ⟨q2, q3, g2, n2, h2, rfl⟩
      rw [List.take_length] at h2
      refine ⟨.ref tl, rfl, tl, runs, rfl, h2, by have := ok.len; omega, fun p hp => ?_, fun H' p ts zs pm up k hp ht hpt hp' prd => ?_⟩
      · have := ok.small p hp
        omega
      · have e := runs_uniq ok pm up
        subst e
        have gG : Gr [] I H0 I2 H' := g2.tr (.grow g2.sub k)
        obtain ⟨I3, g3, le3, a3, o3⟩ := know_tups (K := K) prd gG fun t hz => g2.back (ht t hz)
        refine ⟨p, _, rfl, .inl ⟨.of hp', fun l hl => ?_⟩⟩
        exact q _ (upd I3 l _) _ (g3.tr (.new g3.sub hl)) (at_tup a3 (sub_free g3.sub hl))
abbrev N_County_init : List Str := ["self", "runs", "size", "many"]
theorem sc_County_init : FnScope N_County_init ["self", "runs"] (defScope s_County_init) := ⟨rfl, rfl, rfl, by decide +kernel, rfl, by decide +kernel, by decide +kernel⟩
def R_County_init : List D → List (Str × D) → Prop := fun ds fs => ∃ runs ys : List P2, (ds = [.lst (runs.map encP)] ∨ ds = [.tup (runs.map encP)]) ∧ RunsOk runs ys ∧ fs = ([("own_runs", encF ys)] : List (Str × D))
theorem ok_County_init (T : Txt K mg) (G_summed : Kn P w K mg base 1 278 ["pairs"] (pureSp K R_summed)) : KnD P w K mg base 2 316 ["self", "runs"] (.ref 308) (initSp K 415 R_County_init) := by
  refine KnD.init (n := 1) T.f_County_init sc_County_init rfl (fun _ _ _ _ _ _ _ us its hl hi => match us, its, hl, hi with | [_, _], [_], _, _ => ⟨_, rfl, rfl⟩) (fun _ _ _ _ _ _ _ us its hl hi => match us, its, hl, hi with | [_], [_], _, _ => ⟨_, rfl, rfl⟩) (fun ds fs r => ?_) fun cdv A outer s H0 E hr => ?_
  · obtain ⟨runs, ys, rfl | rfl, _⟩ := r <;> rfl
  · refine ⟨_, (pss_cons (ps_for PassesOwn.never rfl (pi_seq (pv 1)) (pg_tup rfl (pgs_cons (pg_name (i := 2) sc_County_init.nd rfl (Or.inl rfl)) (pgs_cons (pg_name (i := 3) sc_County_init.nd rfl (Or.inl rfl)) pgs_nil))) (pss_one (ps_if (PW.pt (pw_or (pt_cmpR op_lt (pv 2) pe_int (nomark _)) (pw_or1 (pt_cmpR op_lt (pv 3) pe_int (nomark _))))) (pss_one ps_never) pss_nil))) (pss_one (ps_fld (pv 0) (pc G_summed (hr.mono (by decide)) T.g_summed (pa_cons (pv 1) pa_nil)) rfl))), ?_⟩
    rintro x dx ws ds fs I s1 nx hx a ⟨runs, ys, hds, ok, rfl⟩
    have key : ∃ v e, ws = [v] ∧ At K I v e ∧ R_summed [e] (encF ys) ∧ ∀ {σ : L2.St} {I2 H2 : Hp}, Gr [] I H0 I2 H2 → σ[1]? = some (some v) → EvI K (iSeq K (tVar 1)) σ I2 H2 (runs.map encP) := by
      rcases hds with rfl | rfl
      · obtain ⟨v, rfl, av⟩ := a.one
        exact ⟨v, _, rfl, av, ⟨runs, ys, .inl rfl, ok, rfl⟩, fun g hv => ei_seqL (ed_var hv (av.gr g))⟩
      · obtain ⟨v, rfl, av⟩ := a.one
        exact ⟨v, _, rfl, av, ⟨runs, ys, .inr rfl, ok, rfl⟩, fun g hv => ei_seqT (ed_var hv (av.gr g))⟩
    obtain ⟨v, e, rfl, av, hr', it⟩ := key
    refine fun Dn q => sq_for (K := K) (M := []) runs encP (fun i σ1 I2 H2 => ∃ q2 q3, Gr [] I H0 I2 H2 ∧ σ1 = [some (.ref x), some v, q2, q3]) (it (.refl s1) rfl) s1 (fun I2 H2 g2 => ⟨_, _, g2, rfl⟩) ?_ ?_
    · rintro i p y σ1 I2 H2 hp ⟨q2, q3, g2, rfl⟩ I3 H3 g3 a3 N hN
      refine bd_pair y I3 H3 g3.sub a3 _ ?_
      rintro σ2 ⟨x1, y1, ax1, ay1, rfl⟩
      cases ax1
      cases ay1
      have hs := ok.small p (List.mem_of_getElem? hp)
      refine sx_if (b := false) ((eb_or (a := false) (b := false) ((eb_test (K := K) (ed_op (ed_var rfl (.int p.1)) ed_int rd_B0)).is ?_) fun _ => (eb_test (K := K) (ed_op (ed_var rfl (.int p.2)) ed_int rd_B0)).is ?_).is rfl) g3.sub (fun z => nomatch z) fun _ I4 H4 g4 => hN _ I4 H4 g4 ⟨_, _, (g2.tr g3).tr g4, rfl⟩
      · exact decide_eq_false (by omega)
      · exact decide_eq_false (by omega)
    · rintro σ1 I2 H2 s2 ⟨q2, q3, g2, rfl⟩
      have hx2 := g2.keep x _ nx hx (by simp)
      have nx2 := g2.out x _ nx hx
      refine sx_fld (K := K) (i := 0) rfl hx2 nx2 T.c_County T.n_own_runs (show 0 < 1000 by decide) (ed_call (ea_cons (ed_var rfl (av.gr g2)) ea_nil) hr') g2.sub fun v1 I3 H3 g3 a3 h3 n3 => ?_
      exact q _ I3 _ [("own_runs", v1)] (((g2.tr g3).any).mutM (by simp) n3) n3 upd_same (.cons a3 .nil)
abbrev N_County_rows : List Str := ["self", "size", "many"]
theorem sc_County_rows : FnScope N_County_rows ["self"] (defScope s_County_rows) := ⟨rfl, rfl, rfl, by decide +kernel, rfl, by decide +kernel, by decide +kernel⟩
def R_County_rows : List D → D → Prop := fun ds d => ∃ ys, ds = [countyD ys] ∧ RunsOk ys ys ∧ d = .int (rowsOf ys)
theorem ok_County_rows (T : Txt K mg) : Kn P w K mg base 1 343 ["self"] (pureSp K R_County_rows) := by
  refine Kn.pure T.f_County_rows sc_County_rows (fun _ _ _ _ _ _ us hl => match us, hl with | [_], _ => rfl) (fun ds d r => ?_) fun cdv A outer s H0 E hr => ?_
  · obtain ⟨f, rfl, _⟩ := r
    rfl
  · refine ⟨_, (pss_one (ps_ret (pe_callB (cr_sum rfl) (by rfl) T.z_sum (by decide +kernel) (pa_cons (pe_lc (own := [("size", 1), ("many", 2)]) (g := (gTup K 2 (gCons (gName 1) (gCons (gName 2) gNil)))) (tt := tYes) rfl sc_County_rows.nd (pi_tup (pe_fld (pv 0) rfl)) (blkOk_by (N := N_County_rows) (sc := defScope s_County_rows) (by decide +kernel)) (fun _ _ _ _ _ => (pg_tup rfl (pgs_cons (pg_name (i := 1) sc_County_rows.nd rfl (Or.inl rfl)) (pgs_cons (pg_name (i := 2) sc_County_rows.nd rfl (Or.inl rfl)) pgs_nil)))) (fun _ _ _ _ _ => pts_nil) (fun _ _ _ _ _ => (pe_op op_mul (pv 1) (pv 2)))) pa_nil)))), ?_⟩
    rintro vs ds d I s1 a ⟨ys, rfl, ok, rfl⟩
    obtain ⟨v, rfl, av⟩ := a.one
    have key := ed_lc (K := K) (tt := tYes) (te := tOp (rI CMul fun i j => .int (i * j)) (tVar 1) (tVar 2)) ys encP (fun _ => true) (fun p => .int (p.1 * p.2)) (fun s σ2 I => ∃ x y, At K I x (.int s.1) ∧ At K I y (.int s.2) ∧ σ2 = ((wipe (L2.start N_County_rows [v]) [1, 2]).set 1 (some x)).set 2 (some y)) (ei_tup (ed_fld (ed_var (σ := L2.start N_County_rows [v]) (H := H0) (i := 0) rfl av) T.c_County T.n_own_runs rfl)) (by have := ok.len; omega) (fun s => bd_pair) fun s hs σ2 I1 H1 g ⟨x, y, ax, ay, e⟩ => by
      subst e
      cases ax
      cases ay
      have := ok.small s hs
      exact ⟨rfl, eb_yes, fun _ => ed_op (ed_var rfl (.int s.1)) (ed_var rfl (.int s.2)) (rd_I (.inr (by omega)))⟩
    rw [filter_yes] at key
    refine rt_ret ((ed_cb (ea_cons (key.is ?_) ea_nil) (rc_sum (ns := ys.map fun p => p.1 * p.2)))) s1
    rw [List.map_map]
    rfl
abbrev N_County_contains : List Str := ["self", "size", "own", "many"]
theorem sc_County_contains : FnScope N_County_contains ["self", "size"] (defScope s_County_contains) := ⟨rfl, rfl, rfl, by decide +kernel, rfl, by decide +kernel, by decide +kernel⟩
def R_County_contains : List D → D → Prop := fun ds d => ∃ ys n, ds = [countyD ys, .int n] ∧ RunsOk ys ys ∧ d = .bl ((ys.map fun p => decide (p.1 = n)).any id)
theorem ok_County_contains (T : Txt K mg) : Kn P w K mg base 1 374 ["self", "size"] (pureSp K R_County_contains) := by
  refine Kn.pure T.f_County_contains sc_County_contains (fun _ _ _ _ _ _ us hl => match us, hl with | [_, _], _ => rfl) (fun ds d r => ?_) fun cdv A outer s H0 E hr => ?_
  · obtain ⟨f, n, rfl, _⟩ := r
    rfl
  · refine ⟨_, (pss_one (ps_ret (pe_callB (cr_any rfl) (by rfl) T.z_any (by decide +kernel) (pa_cons (pe_lc (own := [("own", 2), ("many", 3)]) (g := (gTup K 2 (gCons (gName 2) (gCons (gName 3) gNil)))) (tt := tYes) rfl sc_County_contains.nd (pi_tup (pe_fld (pv 0) rfl)) (blkOk_by (N := N_County_contains) (sc := defScope s_County_contains) (by decide +kernel)) (fun _ _ _ _ _ => (pg_tup rfl (pgs_cons (pg_name (i := 2) sc_County_contains.nd rfl (Or.inl rfl)) (pgs_cons (pg_name (i := 3) sc_County_contains.nd rfl (Or.inl rfl)) pgs_nil)))) (fun _ _ _ _ _ => pts_nil) (fun _ _ _ _ _ => (pe_cmpR op_eq (pv 2) (pv 1) (nomark _)))) pa_nil)))), ?_⟩
    rintro vs ds d I s1 a ⟨ys, n, rfl, ok, rfl⟩
    obtain ⟨v, u, rfl, av, au⟩ := a.two
    cases au
    have key := ed_lc (K := K) (tt := tYes) (te := tOp rEq (tVar 2) (tVar 1)) ys encP (fun _ => true) (fun p => .bl (decide (p.1 = n))) (fun s σ2 I => ∃ x y, At K I x (.int s.1) ∧ At K I y (.int s.2) ∧ σ2 = ((wipe (L2.start N_County_contains [v, .int n]) [2, 3]).set 2 (some x)).set 3 (some y)) (ei_tup (ed_fld (ed_var (σ := L2.start N_County_contains [v, .int n]) (H := H0) (i := 0) rfl av) T.c_County T.n_own_runs rfl)) (by have := ok.len; omega) (fun s => bd_pair) fun s hs σ2 I1 H1 g ⟨x, y, ax, ay, e⟩ => by
      subst e
      cases ax
      cases ay
      exact ⟨rfl, eb_yes, fun _ => ed_op (ed_var rfl (.int s.1)) (ed_var rfl (.int n)) rd_eqI⟩
    rw [filter_yes] at key
    refine rt_ret ((ed_cb (ea_cons (key.is ?_) ea_nil) (rc_any (bs := ys.map fun p => decide (p.1 = n))))) s1
    rw [List.map_map]
    rfl
abbrev N_County_only : List Str := ["self", "least", "run"]
theorem sc_County_only : FnScope N_County_only ["self", "least"] (defScope s_County_only) := ⟨rfl, rfl, rfl, by decide +kernel, rfl, by decide +kernel, by decide +kernel⟩
def R_County_only : List D → D → Prop := fun ds d => ∃ ys n, ds = [countyD ys, .int n] ∧ RunsOk ys ys ∧ d = countyD (ys.filter fun p => decide (p.1 ≥ n))
theorem ok_County_only (T : Txt K mg) (G_County_init : KnD P w K mg base 2 316 ["self", "runs"] (.ref 308) (initSp K 415 R_County_init)) : Kn P w K mg base 4 393 ["self", "least"] (pureSp K R_County_only) := by
  refine Kn.pure T.f_County_only sc_County_only (fun _ _ _ _ _ _ us hl => match us, hl with | [_, _], _ => rfl) (fun ds d r => ?_) fun cdv A outer s H0 E hr => ?_
  · obtain ⟨f, n, rfl, _⟩ := r
    rfl
  · refine ⟨_, (pss_one (ps_ret (pmk T.k_County G_County_init.kn (hr.mono (by decide)) T.g_County (pa_cons (pe_lc (own := [("run", 2)]) (g := (gName 2)) rfl sc_County_only.nd (pi_tup (pe_fld (pv 0) rfl)) (blkOk_by (N := N_County_only) (sc := defScope s_County_only) (by decide +kernel)) (fun _ _ _ _ _ => (pg_name (i := 2) sc_County_only.nd rfl (Or.inl rfl))) (fun _ _ _ _ _ => (pts_one (pt_cmpR op_ge (pe_ix (ix_tupK (K := K) rfl) (pv 2) pe_int (fun _ _ => rfl)) (pv 1) (nomark _)))) (fun _ _ _ _ _ => (pv 2))) pa_nil)))), ?_⟩
    rintro vs ds d I s1 a ⟨ys, n, rfl, ok, rfl⟩
    obtain ⟨v, u, rfl, av, au⟩ := a.two
    cases au
    refine rt_ret (ed_make (ea_cons (ed_lcN ys encP (fun p => decide (p.1 ≥ n)) encP (ei_tup (ed_fld (ed_var rfl av) T.c_County T.n_own_runs rfl)) (by have := ok.len; omega) fun p hp y I1 H1 g1 ay => ?_) ea_nil) ⟨_, _, .inl rfl, ok.filter _, rfl⟩) s1
    exact ⟨rfl, eb_test (K := K) (ed_op (ed_op (ed_var rfl ay) ed_int (rd_ixT rfl)) (ed_var rfl (.int n)) rd_B0), fun _ => ed_var rfl ay⟩
abbrev N_Step_call : List Str := ["self", "county"]
theorem sc_Step_call : FnScope N_Step_call ["self", "county"] (defScope s_Step_call) := ⟨rfl, rfl, rfl, by decide +kernel, rfl, by decide +kernel, by decide +kernel⟩
def R_Step_call : List D → D → Prop := fun ds d => ∃ s ys, ds = [stepD s, countyD ys] ∧ RunsOk ys ys ∧ d = countyD (stepC s ys)
theorem ok_Step_call (T : Txt K mg) (G_County_only : Kn P w K mg base 4 393 ["self", "least"] (pureSp K R_County_only)) (G_County_rows : Kn P w K mg base 1 343 ["self"] (pureSp K R_County_rows)) (G_County_init : KnD P w K mg base 2 316 ["self", "runs"] (.ref 308) (initSp K 415 R_County_init)) : Kn P w K mg base 5 528 ["self", "county"] (pureSp K R_Step_call) := by
  refine Kn.pure T.f_Step_call sc_Step_call (fun _ _ _ _ _ _ us hl => match us, hl with | [_, _], _ => rfl) (fun ds d r => ?_) fun cdv A outer s H0 E hr => ?_
  · obtain ⟨f, n, rfl, _⟩ := r
    rfl
  · obtain ⟨_, h_TOWN⟩ := T.s_TOWN
    refine ⟨_, (pss_cons (ps_if (pt_cmpR op_eq (pe_fld (pv 0) rfl) (pe_glob (v := .str "town") rfl h_TOWN ⟨_, rfl⟩) (nomark _)) (pss_one (ps_ret (pm (pv 1) T.c_County T.m_County_only G_County_only (hr.mono (by decide)) (pa_cons (pe_fld (pv 0) rfl) pa_nil)))) pss_nil) (pss_one (ps_ret (pe_ifExp (pt_cmpR op_ge (pp (pv 1) T.c_County T.p_County_rows G_County_rows (hr.mono (by decide))) (pe_fld (pv 0) rfl) (nomark _)) (pv 1) (pmkD T.k_County G_County_init (hr.mono (by decide)) T.g_County))))), ?_⟩
    rintro vs ds d I s1 a ⟨s, ys, rfl, ok, rfl⟩
    obtain ⟨v, u, rfl, av, au⟩ := a.two
    refine fun Dn q => sx_seq (sx_if (b := s.1) ((eb_test (K := K) (ed_op (ed_fld (ed_var rfl av) T.c_Step T.n_own_kind rfl) ed_str rd_eqS)).is (kd_town s.1)) s1 (fun hb I1 H1 g1 => ?_) fun hb I1 H1 g1 => ?_)
    · refine sx_ret g1 q ((ed_meth (ed_var rfl (au.gr g1)) rfl (ea_cons (ed_fld (ed_var rfl (av.gr g1)) T.c_Step T.n_own_least rfl) ea_nil) ⟨ys, s.2, rfl, ok, rfl⟩).is ?_)
      unfold stepC
      rw [if_pos hb]
    · refine sx_ret g1 q (ed_if (b := decide (rowsOf ys ≥ s.2)) (eb_test (K := K) (ed_op (ed_prop (ed_var rfl (au.gr g1)) ⟨ys, rfl, ok, rfl⟩) (ed_fld (ed_var rfl (av.gr g1)) T.c_Step T.n_own_least rfl) rd_B0)) (fun hc => (ed_var rfl (au.gr g1)).is ?_) fun hc => (ed_makeD (E308_at T) ⟨[], [], .inr rfl, .nil, rfl⟩).is ?_)
      · unfold stepC
        rw [if_neg (by rw [hb]; decide), if_pos (of_decide_eq_true hc)]
      · unfold stepC
        rw [if_neg (by rw [hb]; decide), if_neg (of_decide_eq_false hc)]
        rfl
abbrev N_Script_call : List Str := ["self", "county", "found", "step"]
theorem sc_Script_call : FnScope N_Script_call ["self", "county"] (defScope s_Script_call) := ⟨rfl, rfl, rfl, by decide +kernel, rfl, by decide +kernel, by decide +kernel⟩
def R_Script_call : List D → D → Prop := fun ds d => ∃ ss ys, ds = [scriptD ss, countyD ys] ∧ RunsOk ys ys ∧ d = countyD (ss.foldl (fun c s => stepC s c) ys)
theorem ok_Script_call (T : Txt K mg) (G_Step_call : Kn P w K mg base 5 528 ["self", "county"] (pureSp K R_Step_call)) : Kn P w K mg base 6 697 ["self", "county"] (pureSp K R_Script_call) := by
  refine Kn.pure T.f_Script_call sc_Script_call (fun _ _ _ _ _ _ us hl => match us, hl with | [_, _], _ => rfl) (fun ds d r => ?_) fun cdv A outer s H0 E hr => ?_
  · obtain ⟨f, n, rfl, _⟩ := r
    rfl
  · refine ⟨_, (pss_cons (ps_set (i := 2) sc_Script_call.nd rfl (Or.inl rfl) (pv 1)) (pss_cons (ps_for PassesOwn.never rfl (pi_tup (pe_fld (pv 0) rfl)) (pg_name (i := 3) sc_Script_call.nd rfl (Or.inl rfl)) (pss_one (ps_set (i := 2) sc_Script_call.nd rfl (Or.inl rfl) (pcO (pv 3) T.m_Step_call T.i_Step_call G_Step_call (hr.mono (by decide)) (pa_cons (pv 2) pa_nil))))) (pss_one (ps_ret (pv 2))))), ?_⟩
    rintro vs ds d I s1 a ⟨ss, ys, rfl, ok, rfl⟩
    obtain ⟨v, u, rfl, av, au⟩ := a.two
    have okF : ∀ l : List (Bool × Int), RunsOk (l.foldl (fun c s => stepC s c) ys) (l.foldl (fun c s => stepC s c) ys) := by
      have : ∀ (l : List (Bool × Int)) (z : List P2), RunsOk z z → RunsOk (l.foldl (fun c s => stepC s c) z) (l.foldl (fun c s => stepC s c) z) := by
        intro l
        induction l with
        | nil => exact fun z h => h
        | cons s l ih => exact fun z h => ih _ (h.step s)
      exact fun l => this l ys ok
    refine fun Dn q => sq_asg (K := K) (ed_var rfl au) s1 fun f I1 H1 g1 af => ?_
    refine sq_for (K := K) (M := []) ss stepD (fun i σ1 I2 H2 => ∃ f q2, Gr [] I H0 I2 H2 ∧ At K I2 f (countyD ((ss.take i).foldl (fun c s => stepC s c) ys)) ∧ σ1 = [some v, some u, some f, q2]) (ei_tup (ed_fld (ed_var rfl (av.gr g1)) T.c_Script T.n_own_steps rfl)) g1.sub (fun I2 H2 g2 => ⟨_, _, g1.tr g2, af.gr g2, rfl⟩) ?_ ?_
    · rintro i p x σ1 I2 H2 hp ⟨f, q2, g2, af2, rfl⟩ I3 H3 g3 a3 N hN
      refine bd_name x I3 H3 g3.sub a3 _ ?_
      rintro σ2 ⟨x1, ax1, rfl⟩
      refine sx_asg (K := K) (ed_callO (K := K) (ed_var rfl ax1) (ea_cons (ed_var rfl (af2.gr g3)) ea_nil) ⟨p, _, rfl, okF _, rfl⟩) g3.sub fun v5 I5 H5 g5 a5 => hN _ I5 H5 g5 ⟨_, _, (g2.tr g3).tr g5, ?_, rfl⟩
      rw [take_succ hp, List.foldl_append]
      exact a5
    · rintro σ1 I2 H2 s2 ⟨f, q2, g2, af2, rfl⟩
      rw [List.take_length] at af2
      exact sx_ret g2 q (ed_var rfl af2)
abbrev N_Script_of : List Str := ["text", "part"]
theorem sc_Script_of : FnScope N_Script_of ["text"] (defScope s_Script_of) := ⟨rfl, rfl, rfl, by decide +kernel, rfl, by decide +kernel, by decide +kernel⟩
def R_Script_of : List D → D → Prop := fun ds d => ∃ p ∈ CT, ds = [.str p.1] ∧ d = scriptD p.2
theorem ok_Script_of (T : Txt K mg) (G_Step_of : Kn P w K mg base 4 494 ["text"] (pureSp K R_Step_of)) (G_Script_init : KnD P w K mg base 5 610 ["self", "steps"] (.ref 602) (initSp K 756 R_Script_init)) : Kn P w K mg base 7 615 ["text"] (pureSp K R_Script_of) := by
  refine Kn.pure T.f_Script_of sc_Script_of (fun _ _ _ _ _ _ us hl => match us, hl with | [_], _ => rfl) (fun ds d r => ?_) fun cdv A outer s H0 E hr => ?_
  · obtain ⟨p, _, rfl, _⟩ := r
    rfl
  · obtain ⟨_, h_NOTHING⟩ := T.s_NOTHING
    obtain ⟨_, h_BETWEEN⟩ := T.s_BETWEEN
    refine ⟨_, (pss_cons (ps_if (pt_cmpR op_eq (pv 0) (pe_glob (v := .str "-") rfl h_NOTHING ⟨_, rfl⟩) (nomark _)) (pss_one (ps_ret (pmkD T.k_Script G_Script_init (hr.mono (by decide)) T.g_Script))) pss_nil) (pss_one (ps_ret (pmk T.k_Script G_Script_init.kn (hr.mono (by decide)) T.g_Script (pa_cons (pe_lc (own := [("part", 1)]) (g := (gName 1)) (tt := tYes) rfl sc_Script_of.nd (pi_list (pe_split (pv 0) (pe_glob (v := .str "; ") rfl h_BETWEEN ⟨_, rfl⟩))) (blkOk_by (N := N_Script_of) (sc := defScope s_Script_of) (by decide +kernel)) (fun _ _ _ _ _ => (pg_name (i := 1) sc_Script_of.nd rfl (Or.inl rfl))) (fun _ _ _ _ _ => pts_nil) (fun _ _ _ _ _ => (psm T.g_Step (T.rea 0 rfl) T.t_Step_of G_Step_of (hr.mono (by decide)) (pa_cons (pv 1) pa_nil)))) pa_nil))))), ?_⟩
    rintro vs ds d I s1 a ⟨p, hp, rfl, rfl⟩
    obtain ⟨v, rfl, av⟩ := a.one
    cases av
    have hf : decide (p.1 = "-") = false ∧ p.1.length ≤ 100 ∧ p.2.length < 10 ∧ ∃ l : List (Str × Bool × Int × Str), (∀ x ∈ l, x ∈ ST) ∧ Txt.split p.1 "; " = l.map (·.1) ∧ p.2 = l.map fun x => (x.2.1, x.2.2.1) := by
      have : p = (("county 9; town 3" : Str), [(false, (9 : Int)), (true, (3 : Int))]) ∨ p = (("town 3" : Str), [(true, (3 : Int))]) ∨ p = (("county 7" : Str), [(false, (7 : Int))]) := by simpa [CT] using hp
      rcases this with rfl | rfl | rfl
      · exact ⟨by decide, by decide, by decide, [("county 9", false, 9, "9"), ("town 3", true, 3, "3")], by decide, by decide +kernel, rfl⟩
      · exact ⟨by decide, by decide, by decide, [("town 3", true, 3, "3")], by decide, by decide +kernel, rfl⟩
      · exact ⟨by decide, by decide, by decide, [("county 7", false, 7, "7")], by decide, by decide +kernel, rfl⟩
    obtain ⟨f1, f2, f4, l, f5, f6, f7⟩ := hf
    refine fun Dn q => sq_ifN ((eb_test (K := K) (ed_op (ed_var rfl (.str p.1)) ed_str rd_eqS)).is f1) s1 fun I1 H1 g1 => ?_
    refine sx_ret g1 q (ed_make (ea_cons ((ed_lcNY (K := K) (j := 1) l (fun x => D.str x.1) (fun x => stepD (x.2.1, x.2.2.1)) ((ei_list (ed_split (b := "; ") (ed_var rfl (.str p.1)) ed_str (by decide) (by omega))).is ?_) ?_ (fun _ => rfl) fun x hx y I2 H2 g2 ay => ?_).is ?_) ea_nil) ⟨p.2, .inl rfl, by omega, rfl⟩)
    · rw [f6, List.map_map]
      rfl
    · rw [f7, List.length_map] at f4
      omega
    · exact ed_call (ea_cons (ed_var rfl ay) ea_nil) ⟨x, f5 x hx, rfl, rfl⟩
    · rw [f7, List.map_map]
      rfl
end
end K98

/-! S9c: the board's towns: put, attempt, sure. -/
namespace K98
open PySem PySem.Spec PyProof.Rows L2
def innD (ts : List Str) (f : Str → Int × Int) : List (Key × D) := ts.map fun t => (.inr t, .tup [.int (f t).1, .int (f t).2])
structure BookOk (B : Bd) (cs : List Str) (ts : Str → List Str) (f : Str → Str → Int × Int) (zs : Str → List P2) : Prop where
  book : B.book = cs.map fun c => (.inr c, .dic (innD (ts c) (f c)))
  len : cs.length < 60
  tlen : ∀ c ∈ cs, (ts c).length < 60
  ok : ∀ c ∈ cs, RunsOk ((ts c).map fun t => ((f c t).1, (1 : Int))) (zs c)
def townD (f : Str → Int × Int) (t : Str) : D := .tup [.str t, .int (f t).1, .int (f t).2]
abbrev Deed := Str × Str × Int × Int
def deedD (p : Deed) : D := .tup [.str "put", .str p.1, .str p.2.1, .int p.2.2.1, .int p.2.2.2]
def innerOf (B : Bd) (c : Str) : List (Key × D) := match valD B.book (.inr c) with
  | some (.dic i) => i
  | _ => []
def putB (B : Bd) (p : Deed) : Bd := { B with book := putD B.book (.inr p.1) (.dic (putD (innerOf B p.1) (.inr p.2.1) (.tup [.int p.2.2.1, .int p.2.2.2]))), np := B.np + 1 }
structure PutOk (B : Bd) (p : Deed) : Prop where
  le : p.2.2.1 ≤ p.2.2.2
  np : B.np < 90000
  nd : (B.book.map (·.1)).Nodup
  len : B.book.length < 1000
  inner : (valD B.book (.inr p.1)).getD (.dic []) = .dic (innerOf B p.1)
  ind : ((innerOf B p.1).map (·.1)).Nodup
  ilen : (innerOf B p.1).length < 1000
theorem BookOk.val {B : Bd} {cs : List Str} {ts : Str → List Str} {f : Str → Str → Int × Int} {zs : Str → List P2} (h : BookOk B cs ts f zs) {c : Str} (hc : c ∈ cs) : valD B.book (.inr c) = some (.dic (innD (ts c) (f c))) := by
  rw [h.book]
  exact wholesD_val cs (fun c => .dic (innD (ts c) (f c))) hc
theorem innD_val {ts : List Str} {f : Str → Int × Int} {t : Str} (h : t ∈ ts) : valD (innD ts f) (.inr t) = some (.tup [.int (f t).1, .int (f t).2]) := wholesD_val ts (fun t => .tup [.int (f t).1, .int (f t).2]) h
section
variable {X : Cx} {K : PySem.W.Frag} {e : Expr} {es : List Expr} {te : TE} {t : TA} {p : Pos}
theorem pa_starK (h : X.K = K) (he : PE X e te) (hr : PA X es t) (hs : starEach (.Starred e p :: es) X.env = (true, eval e X.env) :: starEach es X.env := by rfl) : PA X (.Starred e p :: es) (StX.tStar K te t) := h ▸ StX.pa_star he hr hs
end
section
variable {K : PySem.W.Frag} {σ : L2.St} {I H I' H' : Hp} {ta tb te tc : TE} {d e : D} {b dx pl : Addr} {B B' : Bd} {v1 v2 v3 v4 : V} {ps : List V}
theorem Dk.upd {kds : List (Key × D)} {v : V} {p : Addr} {o : HO} (n : I p = none) (h : Dk K kds v I) : Dk K kds v (upd I p o) := by
  obtain ⟨a, kvs, rfl, h1, h2⟩ := h
  exact ⟨a, kvs, rfl, by rw [upd_ne (ne_of_none h1 n)]; exact h1, AtK.le (upd_le n) _ h2⟩
theorem AtB.upd {p : Addr} {o : HO} (n : I p = none) : ∀ {kvs : List (Key × V)} {kds : List (Key × D)}, AtB K I kvs kds → AtB K (upd I p o) kvs kds
  | _, _, .nil => .nil
  | _, _, .cons h t => .cons (h.upd n) (t.upd n)
theorem ed_slT {tl th : TO} {ds : List D} {lo hi : Option Int} (h : EvD K te σ I H (.tup ds)) (h1 : EvO tl σ I H lo) (h2 : EvO th σ I H hi) (hn : ¬ (HT.sIx ds.length 0 lo = 0 ∧ HT.sIx ds.length ds.length hi = ds.length)) : EvD K (L2.tSl (rSlT K) te tl th) σ I H (.tup (cutD ds lo hi)) := fun I1 H1 g Q q =>
  h I1 H1 g _ fun v I2 H2 g2 a => h1 I2 H2 (g.tr g2) _ fun I3 H3 g3 => h2 I3 H3 ((g.tr g2).tr g3) _ fun I4 H4 g4 => by
    cases a with
    | tup k1 k2 =>
      have g24 := g3.tr g4
      refine ⟨_, _, rfl, (sub_le g4.sub).t (g24.le.t k1), ?_, fun p hp => q _ (upd I4 p _) _ ((g2.tr g24).tr (.new g4.sub hp)) (at_tup ?_ (sub_free g4.sub hp))⟩
      · rw [k2.length]
        exact hn
      · unfold cutV cutD
        rw [k2.length]
        exact ((k2.gr g24).drop _).take _
/-- d.get(k, e) -/
theorem ed_dget2S {x : Str} {kds : List (Key × D)} (h1 : EvD K ta σ I H (.dic kds)) (h2 : EvD K tb σ I H (.str x)) (h3 : EvD K tc σ I H d) : EvD K (tDGet2 ta tb tc) σ I H ((valD kds (.inr x)).getD d) := fun I1 H1 g Q q =>
  h1 I1 H1 g _ fun v I2 H2 g2 a2 => by
    cases a2 with
    | @dic a kvs _ k1 k2 =>
      refine ⟨_, rfl, .inl ⟨_, (sub_le g2.sub).rd a (.dK kvs) (fun _ _ z => nomatch z) k1⟩, h2 I2 H2 (g.tr g2) _ fun y I3 H3 g3 a3 => h3 I3 H3 ((g.tr g2).tr g3) _ fun z I4 H4 g4 a4 => ?_⟩
      cases a3
      have g24 := g3.tr g4
      have rd4 : Rd H4 a (.dK kvs) := (sub_le g4.sub).rd a (.dK kvs) (fun _ _ z => nomatch z) (g24.le.rd a (.dK kvs) (fun _ _ z => nomatch z) k1)
      rcases (k2.gr g24).val (.inr x) with ⟨e1, e2⟩ | ⟨d', u, e1, e2, au⟩
      · refine ⟨none, .inl ⟨kvs, .inr x, rd4, rfl, e2.symm⟩, q z I4 H4 (g2.tr g24) ?_⟩
        rw [e1]
        exact a4
      · refine ⟨some u, .inl ⟨kvs, .inr x, rd4, rfl, e2.symm⟩, q u I4 H4 (g2.tr g24) ?_⟩
        rw [e1]
        exact au
/-- {**d, k: v}, the values unlocked dicts -/
theorem ep_merge1B {x : Str} {kds kd : List (Key × D)} {tk tv : TE} (he : EvP te σ I H (Bk K kds)) (hn : (kds.map (·.1)).Nodup) (hz : kds.length < 90000) (hk : EvD K tk σ I H (.str x)) (hv : EvP tv σ I H (Dk K kd)) : EvP (tMerge1 te tk tv) σ I H (Bk K (putD kds (.inr x) (.dic kd))) := fun I1 H1 g Q q p hp => by
  have g1 : Gr [] I1 H1 I1 (upd H1 p (.dK [])) := .side g.sub hp
  have np := sub_free g.sub hp
  refine he I1 _ (g.tr g1) _ fun v I2 H2 g2 a2 => ?_
  have hp2 := g2.keep p _ np upd_same (by simp)
  have np2 := g2.out p _ np upd_same
  obtain ⟨a, kvs, rfl, k1, k2⟩ := a2
  have rd2 : Rd H2 a (.dK kvs) := .inl (g2.sub _ _ k1)
  have hap : a ≠ p := fun z => by
    rw [z, np2] at k1
    cases k1
  have hnk : (kvs.map (·.1)).Nodup := by rw [k2.k.keys]; exact hn
  have hm := mergeK_self (kvs := kvs) hnk
  have hl : kvs.length < 90000 := by rw [k2.k.length]; exact hz
  refine ⟨a, kvs, rfl, hap, rd2, hp2, by omega, fun q1 hq => ?_⟩
  rw [hm] at hq ⊢
  have hpq : p ≠ q1 := fun z => by
    rw [← z, upd_same] at hq
    cases hq
  have gA : Gr [] I1 H1 I2 (upd H2 p (.dK kvs)) := (g1.tr g2).mut hp np2
  have gB : Gr [] I1 H1 I2 (upd (upd H2 p (.dK kvs)) q1 (.dK [])) := gA.tr (.side gA.sub hq)
  have nq2 := sub_free gA.sub hq
  have hq0 : H1 q1 = none := gA.back hq
  refine hk I2 _ (g.tr gB) _ fun y I3 H3 g3 a3 => hv I3 H3 ((g.tr gB).tr g3) _ fun z I4 H4 g4 a4 => ?_
  cases a3
  have g34 := g3.tr g4
  have hpB : upd (upd H2 p (.dK kvs)) q1 (.dK []) p = some (.dK kvs) := by rw [upd_ne hpq, upd_same]
  have hp4 := g34.keep p _ np2 hpB (by simp)
  have np4 := g34.out p _ np2 hpB
  have hq4 := g34.keep q1 _ nq2 upd_same (by simp)
  have nq4 := g34.out q1 _ nq2 upd_same
  have gD := (((gB.tr g34).mut (o := .dK [(.inr x, z)]) hq0 nq4).mut (o := .dK (putK kvs (.inr x) z)) hp np4).know hp upd_same np4
  exact ⟨.inr x, rfl, hpq, hq4, hp4, q _ _ _ gD ⟨p, _, rfl, upd_same, ((k2.gr g34).put a4).upd np4⟩⟩
theorem ep_book {i : Nat} (T : NoAttr K 1051 "own_book") (c : Cls K 1051) (hv : σ[i]? = some (some (.ref b))) (h : Brd K b pl B I H) : EvP (tFld K (tVar i) "own_book") σ I H (Bk K B.book) := fun I1 H1 g Q q => by
  obtain ⟨dx, v1, v2, v3, v4, ps, h0, k1, k3⟩ := h.gr g
  exact ⟨.ref b, hv, b, 1051, dx, _, v1, rfl, h0.hb, c, T, rfl, q _ I1 H1 (.refl g.sub) k1⟩
theorem AtL.of_vals : ∀ (ns : List V), AtL K I ns (ns.map D.val)
  | [] => .nil
  | n :: ns => .cons (.val n) (AtL.of_vals ns)
theorem AtL.vals : ∀ (ns : List V) {vs : List V}, AtL K I vs (ns.map D.val) → vs = ns
  | [], vs, h => by cases h; rfl
  | n :: ns, vs, h => by
    cases h with
    | cons h1 h2 =>
      cases h1
      rw [AtL.vals ns h2]
/-- list(b.own_past) -/
theorem ed_past {i : Nat} (T : NoAttr K 1051 "own_past") (c : Cls K 1051) (hv : σ[i]? = some (some (.ref b))) (h : BoardAt K b dx pl B I H v1 v2 v3 v4 ps) : EvD K (tCB (fun xs H Q => ∃ p ys, xs = [.ref p] ∧ (SqL K H p ys ∨ SqT K H p ys) ∧ ∀ l, H l = none → Q (.ref l) (upd H l (.lst ys))) (tCons (tFld K (tVar i) "own_past") tNil)) σ I H (.lst (ps.map D.val)) := fun I1 H1 g Q q => by
  have h1 := h.gr g
  exact ⟨.ref b, hv, b, 1051, dx, _, .ref pl, rfl, h1.hb, c, T, rfl, pl, ps, rfl, .inl (.of h1.hp), fun l hl => q _ (upd I1 l _) _ (.new g.sub hl) (at_lst (AtL.of_vals ps) (sub_free g.sub hl))⟩
def brdA (K : PySem.W.Frag) (R : Bd → List D → Bd → Prop) : Sp := fun vs H Q _ => ∃ I b pl B ws ds B', vs = .ref b :: ws ∧ Sub I H ∧ Brd K b pl B I H ∧ AtL K I ws ds ∧ R B ds B' ∧ ∀ pl' I' H', Gr [b, pl] I H I' H' → H pl' = none → Brd K b pl' B' I' H' → Q .non H'
theorem Gr.backM {M : List Addr} {I1 H1 : Hp} (g : Gr M I H I1 H1) {x : Addr} (h : H1 x = none) (hm : x ∉ M) : H x = none := by
  cases q1 : H x with
  | none => rfl
  | some o =>
    exfalso
    cases q2 : I x with
    | some u =>
      have := g.sub _ _ (g.ext _ _ q2)
      rw [h] at this
      cases this
    | none =>
      have := g.keep _ _ q2 q1 hm
      rw [h] at this
      cases this
/-- xs.extend(e), the list beside what is known -/
theorem sx_ext {i : Nat} {l : Addr} {xs : List V} {ds : List D} {Dn : Ends} (hv : σ[i]? = some (some (.ref l))) (hl : H l = some (.lst xs)) (nl : I l = none) (h : EvD K te σ I H (.lst ds)) (s : Sub I H) (hz : xs.length + ds.length ≤ 100000)
    (k : ∀ zs I1 H1, Gr [] I H I1 H1 → AtL K I1 zs ds → H1 l = some (.lst xs) → I1 l = none → Dn.nx σ (upd H1 l (.lst (xs ++ zs)))) : tDrop (tBM K "list" rExtend (tVar i) (tCons te tNil)) Dn σ H :=
  ⟨.ref l, hv, .inl ⟨rfl, xs, .of hl⟩, h.run s fun v I1 H1 g a => by
    cases a with
    | lst k1 k2 =>
      have h1 := g.keep l _ nl hl (by simp)
      refine ⟨l, _, xs, _, rfl, rfl, h1, g.sub _ _ k1, ?_, k _ I1 H1 g k2 h1 (g.out l _ nl hl)⟩
      rw [k2.length]
      exact Nat.le_trans hz (by decide)⟩
/-- x, y = e, [] -/
theorem sq_parEN {i j : Nat} {u : TS} {Dn : Ends} (h : EvD K te σ I H d) (s : Sub I H)
    (k : ∀ v l I1 H1, Gr [] I H I1 H1 → At K I1 v d → H l = none → I1 l = none → H1 l = some (.lst []) → u Dn ((σ.set i (some v)).set j (some (.ref l))) H1) : tSeq (tPar i j (tCons te (tCons (tLst tNil) tNil))) u Dn σ H :=
  h I H (.refl s) _ fun v I1 H1 g1 a1 => ⟨Nat.zero_le _, fun l hl => ⟨v, _, rfl, k v l I1 _ (g1.tr (.side g1.sub hl)) a1 (g1.back hl) (sub_free g1.sub hl) upd_same⟩⟩
end
section
variable {P : Program} {w : World} {K : PySem.W.Frag} {mg : Str → Option Value} {base : Heap}
abbrev N_Board_put : List Str := ["self", "county", "town", "low", "high"]
theorem sc_Board_put : FnScope N_Board_put ["self", "county", "town", "low", "high"] (defScope s_Board_put) := ⟨rfl, rfl, rfl, by decide +kernel, rfl, by decide +kernel, by decide +kernel⟩
def R_Board_put : Bd → List D → Bd → Prop := fun B ds B2 => ∃ p : Deed, ds = [.str p.1, .str p.2.1, .int p.2.2.1, .int p.2.2.2] ∧ PutOk B p ∧ B2 = putB B p
theorem ok_Board_put (T : Txt K mg) (G_Board_keep : Kn P w K mg base 2 821 ["self"] (brdM K R_Board_keep)) : Kn P w K mg base 3 1006 ["self", "county", "town", "low", "high"] (brdM K R_Board_put) := by
  refine Kn.brdM T.f_Board_put sc_Board_put (fun _ _ _ _ _ _ us hl => match us, hl with | [_, _, _, _, _], _ => rfl) (fun B ds d r => ?_) fun cdv A outer s H0 E hr => ?_
  · obtain ⟨p, rfl, _⟩ := r
    rfl
  · refine ⟨_, (pss_cons (ps_if (pt_cmpR op_lt (pv 4) (pv 3) (nomark _)) (pss_one ps_never) pss_nil) (pss_cons (ps_expr (pm0 (pv 0) T.c_Board T.m_Board_keep G_Board_keep (hr.mono (by decide)))) (pss_one (ps_fld (pv 0) (pe_merge1 (pe_fld (pv 0) rfl) (pv 1) (pe_merge1 (pe_dget2 (hu_of hr) (pe_fld (pv 0) rfl) (pv 1) pe_dnewK ⟨rfl, rfl, rfl, rfl⟩) (pv 2) (pe_tup (pa_cons (pv 3) (pa_cons (pv 4) pa_nil))))) rfl)))), ?_⟩
    rintro b pl ws ds I B B2 s1 hB a ⟨p, rfl, ok, rfl⟩
    cases a with
    | @cons v _ _ _ av a =>
    obtain ⟨u, x, y, rfl, au, ax, ay⟩ := a.three
    cases ax
    cases ay
    refine fun Dn q => sq_ifN ((eb_test (K := K) (ed_op (ed_var rfl (.int p.2.2.2)) (ed_var rfl (.int p.2.2.1)) rd_B0)).is (decide_eq_false (by have := ok.le; omega))) s1 fun I1 H1 g1 => ?_
    have hB1 := hB.gr g1
    refine sq_brdM (i := 0) rfl hB1 ea_nil ⟨rfl, ok.np, rfl⟩ g1.sub fun I2 H2 g2 hB2 => ?_
    have g12 := g1.any.trans g2 hB1.two
    obtain ⟨dx, v1, v2, v3, v4, ps, h, k1, k3⟩ := id hB2
    refine sx_bfld (i := 0) rfl h.hb h.nb T.c_Board T.n_own_book (show 5 < 1000 by decide) (ep_merge1B (K := K) (ep_book T.n_own_book T.c_Board rfl hB2) ok.nd (by have := ok.len; show B.book.length < 90000; omega) (ed_var rfl (av.gr g12)) (ep_merge1 (K := K) ((ed_dget2S (ed_book T.n_own_book T.c_Board rfl hB2.l) (ed_var rfl (av.gr g12)) ed_dnew).is ok.inner) ok.ind (by have := ok.ilen; omega) (ed_var rfl (au.gr g12)) (ed_tup (ea_cons (ed_var rfl (.int p.2.2.1)) (ea_cons (ed_var rfl (.int p.2.2.2)) ea_nil)) (by simp)))) g2.sub fun v I3 H3 g3 a3 => ?_
    have h3 := h.gr g3
    exact q _ I3 _ ((g12.trans g3.any hB2.two).mutM (by simp) h3.nb) ⟨dx, v, v2, v3, v4, ps, h3.set1 a3.dk.at, a3, k3.gr g3⟩
abbrev N_Board_done : List Str := ["self", "deed", "word", "rest"]
theorem sc_Board_done : FnScope N_Board_done ["self", "deed"] (defScope s_Board_done) := ⟨rfl, rfl, rfl, by decide +kernel, rfl, by decide +kernel, by decide +kernel⟩
def R_Board_done : Bd → List D → Bd → Prop := fun B ds B2 => ∃ p : Deed, ds = [deedD p] ∧ PutOk B p ∧ B2 = putB B p
theorem ok_Board_done (T : Txt K mg) (G_Board_put : Kn P w K mg base 3 1006 ["self", "county", "town", "low", "high"] (brdM K R_Board_put)) : Kn P w K mg base 4 1020 ["self", "deed"] (brdM K R_Board_done) := by
  refine Kn.brdM T.f_Board_done sc_Board_done (fun _ _ _ _ _ _ us hl => match us, hl with | [_, _], _ => rfl) (fun B ds d r => ?_) fun cdv A outer s H0 E hr => ?_
  · obtain ⟨p, rfl, _⟩ := r
    rfl
  · refine ⟨_, (pss_cons (ps_par (i := 2) (j := 3) rfl sc_Board_done.nd rfl rfl (by decide) rfl rfl (pa_cons (pe_ix ix_tup (pv 1) pe_int (fun _ _ => rfl)) (pa_cons (pe_slice sl_tup (pv 1) (po_some pe_int) po_none) pa_nil)) (by rfl)) (pss_one (ps_if (pt_cmpR op_eq (pv 2) pe_str (nomark _)) (pss_one ps_never) (pss_one (ps_if (pt_cmpR op_eq (pv 2) pe_str (nomark _)) (pss_one ps_never) (pss_one (ps_if (pt_cmpR op_eq (pv 2) pe_str (nomark _)) (pss_one ps_never) (pss_one (ps_if (pt_cmpR op_eq (pv 2) pe_str (nomark _)) (pss_one ps_never) (pss_one (ps_if (pt_cmpR op_eq (pv 2) pe_str (nomark _)) (pss_one ps_never) (pss_one (ps_if (pt_cmpR op_eq (pv 2) pe_str (nomark _)) (pss_one ps_never) (pss_one (ps_if (pt_cmpR op_eq (pv 2) pe_str (nomark _)) (pss_one (ps_expr (pm (pv 0) T.c_Board T.m_Board_put G_Board_put (hr.mono (by decide)) (pa_cons (pe_ix ix_tup (pv 3) pe_int (fun _ _ => rfl)) (pa_cons (pe_ix ix_tup (pv 3) pe_int (fun _ _ => rfl)) (pa_cons (pe_ix ix_tup (pv 3) pe_int (fun _ _ => rfl)) (pa_cons (pe_ix ix_tup (pv 3) pe_int (fun _ _ => rfl)) pa_nil))))))) (pss_one ps_never)))))))))))))))), ?_⟩
    rintro b pl ws ds I B B2 s1 hB a ⟨p, rfl, ok, rfl⟩
    obtain ⟨v, rfl, av⟩ := a.one
    refine fun Dn q => sq_par (K := K) (d := .str "put") (e := .tup [.str p.1, .str p.2.1, .int p.2.2.1, .int p.2.2.2]) (ea_cons (ed_op (ed_var rfl av) ed_int (rd_ixT rfl)) (ea_cons ((ed_slT (ed_var rfl av) (eo_some (K := K) ed_int) eo_none (show ¬ (HT.sIx 5 0 (some 1) = 0 ∧ HT.sIx 5 5 none = 5) by decide)).is rfl) ea_nil)) s1 fun v2 w I1 H1 g1 av2 aw => ?_
    cases av2
    refine sx_if (b := false) ((eb_test (K := K) (ed_op (ed_var rfl (.str "put")) ed_str rd_eqS)).is (by decide)) g1.sub (fun z => nomatch z) fun _ I2 H2 g2 => ?_
    refine sx_if (b := false) ((eb_test (K := K) (ed_op (ed_var rfl (.str "put")) ed_str rd_eqS)).is (by decide)) g2.sub (fun z => nomatch z) fun _ I3 H3 g3 => ?_
    refine sx_if (b := false) ((eb_test (K := K) (ed_op (ed_var rfl (.str "put")) ed_str rd_eqS)).is (by decide)) g3.sub (fun z => nomatch z) fun _ I4 H4 g4 => ?_
    refine sx_if (b := false) ((eb_test (K := K) (ed_op (ed_var rfl (.str "put")) ed_str rd_eqS)).is (by decide)) g4.sub (fun z => nomatch z) fun _ I5 H5 g5 => ?_
    refine sx_if (b := false) ((eb_test (K := K) (ed_op (ed_var rfl (.str "put")) ed_str rd_eqS)).is (by decide)) g5.sub (fun z => nomatch z) fun _ I6 H6 g6 => ?_
    refine sx_if (b := false) ((eb_test (K := K) (ed_op (ed_var rfl (.str "put")) ed_str rd_eqS)).is (by decide)) g6.sub (fun z => nomatch z) fun _ I7 H7 g7 => ?_
    refine sx_if (b := true) ((eb_test (K := K) (ed_op (ed_var rfl (.str "put")) ed_str rd_eqS)).is (by decide)) g7.sub (fun _ I8 H8 g8 => ?_) fun z => nomatch z
    have g28 := ((((((g2.tr g3).tr g4).tr g5).tr g6).tr g7).tr g8)
    have g18 := g1.tr g28
    have aw8 := aw.gr g28
    refine sx_brdM (i := 0) rfl (hB.gr g18) (ea_cons (ed_op (ed_var rfl aw8) ed_int (rd_ixT rfl)) (ea_cons (ed_op (ed_var rfl aw8) ed_int (rd_ixT rfl)) (ea_cons (ed_op (ed_var rfl aw8) ed_int (rd_ixT rfl)) (ea_cons (ed_op (ed_var rfl aw8) ed_int (rd_ixT rfl)) ea_nil)))) ⟨p, rfl, ok, rfl⟩ g18.sub fun I9 H9 g9 hB9 => ?_
    exact q _ I9 H9 (g18.any.trans g9 (hB.gr g18).two) hB9
def R_Board_attempt : Bd → List D → Bd → Prop := fun B ds B2 => ∃ dl : List Deed, ds = [.tup (dl.map deedD)] ∧ B.np < 90000 ∧ (∀ i p, dl[i]? = some p → PutOk ((dl.take i).foldl putB B) p) ∧ B2 = { dl.foldl putB B with np := B.np + 1 }
abbrev N_Board_attempt : List Str := ["self", "deeds", "state", "past", "number", "deed", "error", "raised", "value"]
theorem sc_Board_attempt : FnScope N_Board_attempt ["self", "deeds"] (defScope s_Board_attempt) := ⟨rfl, rfl, rfl, by decide +kernel, rfl, by decide +kernel, by decide +kernel⟩
theorem ok_Board_attempt (T : Txt K mg) (G_Board_state : Kn P w K mg base 1 807 ["self"] (brdP K R_Board_state)) (G_Board_done : Kn P w K mg base 4 1020 ["self", "deed"] (brdM K R_Board_done)) : Kn P w K mg base 5 1027 ["self", "deeds"] (brdA K R_Board_attempt) := by
  refine Kn.of T.f_Board_attempt sc_Board_attempt (fun _ _ _ _ _ _ us hl => match us, hl with | [_, _], _ => rfl) (fun vs H Q E h => ?_) fun cdv A outer s H0 vs Q E hr h => ?_
  · obtain ⟨I, b, pl, B, ws, ds, B', rfl, _, _, a, ⟨dl, rfl, _⟩, _⟩ := h
    obtain ⟨v, rfl, _⟩ := a.one
    rfl
  · refine ⟨_, ((pss_cons (ps_par (i := 2) (j := 3) rfl sc_Board_attempt.nd rfl rfl (by decide) rfl rfl (pa_cons (pm0 (pv 0) T.c_Board T.m_Board_state G_Board_state (hr.mono (by decide))) (pa_cons (pe_callTy call_list_of (by rfl) T.z_list (by decide +kernel) (pa_cons (pe_fld (pv 0) rfl) pa_nil)) pa_nil)) (by rfl)) (pss_cons (ps_for PassesOwn.never rfl (pi_enumT (by rfl) T.z_enumerate (pa_cons (pv 1) pa_nil)) (pg_tup rfl (pgs_cons (pg_name (i := 4) sc_Board_attempt.nd rfl (Or.inl rfl)) (pgs_cons (pg_name (i := 5) sc_Board_attempt.nd rfl (Or.inl rfl)) pgs_nil))) (pss_one (ps_try_thru0 (PSs.nox (pss_one (ps_expr (pm (pv 0) T.c_Board T.m_Board_done G_Board_done (hr.mono (by decide)) (pa_cons (pe_callTy call_tuple_of (by rfl) T.z_tuple (by decide +kernel) (pa_cons (pv 5) pa_nil)) pa_nil)))))))) (pss_one (ps_fld (pv 0) (pe_lst (StX.pa_star (pv 3) (pa_cons (pv 2) pa_nil))) rfl)))) : PSs _ _ _).nox, ?_⟩
    obtain ⟨I, b, pl, B, ws, ds, B', rfl, s1, hB, a, ⟨dl, rfl, hnp, ok, rfl⟩, q⟩ := h
    obtain ⟨v, rfl, av⟩ := a.one
    obtain ⟨dx, v1, v2, v3, v4, ps, h, k1, k3⟩ := id hB
    refine sq_par (K := K) (d := stD B) (e := .lst (ps.map D.val)) (ea_cons (ed_brdP (i := 0) rfl hB.l ea_nil ⟨rfl, rfl⟩) (ea_cons (ed_past T.n_own_past T.c_Board rfl h) ea_nil)) s1 fun st pa I1 H1 g1 ast apa => ?_
    refine sq_for (K := K) (M := [b, pl]) (List.range dl.length) (fun i => D.tup [.int (i : Nat), (dl.map deedD).getD i .non]) (fun i σ1 I2 H2 => ∃ q4 q5, Gr [b, pl] I H0 I2 H2 ∧ Brd K b pl ((dl.take i).foldl putB B) I2 H2 ∧ At K I2 st (stD B) ∧ At K I2 pa (.lst (ps.map D.val)) ∧ σ1 = [some (.ref b), some v, some st, some pa, q4, q5, none, none, none])
      ((ei_enumT (K := K) (ea_cons (ed_var rfl (av.gr g1)) ea_nil)).is (by rw [List.length_map])) g1.sub (fun I2 H2 g2 => ⟨_, _, g1.any.trans g2.any (hB.gr g1).two, (hB.gr g1).gr g2, ast.gr g2, apa.gr g2, rfl⟩) ?_ ?_
    · rintro i n x σ1 I2 H2 hp ⟨q4, q5, g2, hB2, ast2, apa2, rfl⟩ I3 H3 g3 a3 N hN
      have hi : i < dl.length := by
        have := (List.getElem?_eq_some_iff.mp hp).1
        rwa [List.length_range] at this
      have hin : n = i := by
        rw [List.getElem?_range hi] at hp
        exact (Option.some.inj hp).symm
      subst hin
      have e0 : dl[n]? = some (dl[n]'hi) := List.getElem?_eq_getElem hi
      have e1 : (dl.map deedD).getD n .non = deedD (dl[n]'hi) := by
        rw [List.getD_eq_getElem?_getD, List.getElem?_map, e0]
        rfl
      rw [e1] at a3
      refine bd_pair x I3 H3 g3.sub a3 _ ?_
      rintro σ2 ⟨x1, y1, ax1, ay1, rfl⟩
      refine sx_brdM (i := 0) rfl (hB2.gr g3) (ea_cons (ed_cb (ea_cons (ed_var rfl ay1) ea_nil) rc_tupT) ea_nil) ⟨_, rfl, ok n _ e0, rfl⟩ g3.sub fun I4 H4 g4 hB4 => ?_
      refine hN _ I4 H4 g4 ⟨_, _, (g2.trans g3.any hB2.two).trans g4 (hB2.gr g3).two, ?_, (ast2.gr g3).gr g4, (apa2.gr g3).gr g4, rfl⟩
      rw [take_succ e0, List.foldl_append]
      exact hB4
    · rintro σ1 I2 H2 s2 ⟨q4, q5, g2, hB2, ast2, apa2, rfl⟩
      rw [List.length_range, List.take_length] at hB2
      obtain ⟨dx2, w1, w2, w3, w4, ps2, h2, k12, k32⟩ := id hB2
      cases apa2 with
      | @lst pa zs _ kk1 kk2 =>
        have e := AtL.vals ps kk2
        subst e
        refine ⟨.ref pa, rfl, pa, _, rfl, .inr (.of (s2 _ _ kk1)), st, rfl, ?_, fun np hnp => ?_⟩
        · have := h.lp
          rw [List.length_append]
          exact Nat.le_trans (show _ ≤ 100000 by simp only [List.length_cons, List.length_nil]; omega) (by decide)
        · have nb := h2.nb
          have nnp := sub_free s2 hnp
          have hbn : b ≠ np := fun z => by
            rw [← z, h2.hb] at hnp
            cases hnp
          have hpn : pl ≠ np := fun z => by
            rw [← z, h2.hp] at hnp
            cases hnp
          have gN : Gr [b, pl] I H0 I2 (upd H2 np (.lst (zs ++ [st]))) := g2.trans (.side s2 hnp) hB2.two
          have hl := h.lp
          refine ⟨.ref b, rfl, b, 1051, dx2, boardF w1 w2 w3 w4 pl, rfl, by rw [upd_ne hbn]; exact h2.hb, T.c_Board, T.n_own_past, show 5 < 1000 by decide, ?_⟩
          refine q np I2 _ (gN.mutM (by simp) nb) (g2.backM hnp (by simpa using ⟨Ne.symm hbn, Ne.symm hpn⟩)) ⟨dx2, w1, w2, w3, w4, zs ++ [st], ⟨hbn, nb, nnp, upd_same, by rw [upd_ne (Ne.symm hbn), upd_same], h2.a1, h2.a2, h2.a3, h2.a4, ?_⟩, k12, k32⟩
          rw [List.length_append]
          simp only [List.length_cons, List.length_nil]
          omega
abbrev N_Board_check_county : List Str := ["self", "county"]
theorem sc_Board_check_county : FnScope N_Board_check_county ["self", "county"] (defScope s_Board_check_county) := ⟨rfl, rfl, rfl, by decide +kernel, rfl, by decide +kernel, by decide +kernel⟩
def R_Board_check_county : Bd → List D → Prop := fun B ds => ∃ c, ds = [.str c] ∧ (valD B.book (.inr c)).isSome = true
theorem ok_Board_check_county (T : Txt K mg) : Kn P w K mg base 1 835 ["self", "county"] (brdN K R_Board_check_county) := by
  refine Kn.brdN T.f_Board_check_county sc_Board_check_county (fun _ _ _ _ _ _ us hl => match us, hl with | [_, _], _ => rfl) (fun B ds r => ?_) fun cdv A outer s H0 E hr => ?_
  · obtain ⟨n, rfl, _⟩ := r
    rfl
  · refine ⟨_, (pss_one (ps_if (pt_cmp (pc_dnotin (hu_of hr) (pv 1) (pe_fld (pv 0) rfl))) (pss_one ps_never) pss_nil)), ?_⟩
    rintro b pl ws ds I B s1 hB a ⟨n, rfl, hn⟩
    obtain ⟨v, rfl, av⟩ := a.one
    refine fun Dn q => sx_if (b := false) ((eb_B (K := K) (ed_dnotin (ed_var rfl av) (ed_book T.n_own_book T.c_Board rfl hB))).is ?_) s1 (fun z => nomatch z) fun _ I1 H1 g1 => q _ I1 H1 g1
    rw [hn]
    rfl
abbrev N_Board_towns_of : List Str := ["self", "county", "book", "town"]
theorem sc_Board_towns_of : FnScope N_Board_towns_of ["self", "county"] (defScope s_Board_towns_of) := ⟨rfl, rfl, rfl, by decide +kernel, rfl, by decide +kernel, by decide +kernel⟩
def R_Board_towns_of : Bd → List D → D → Prop := fun B ds d => ∃ c cs ts f zs, ds = [.str c] ∧ BookOk B cs ts f zs ∧ c ∈ cs ∧ d = .tup ((sortS (ts c)).map (townD (f c)))
theorem ok_Board_towns_of (T : Txt K mg) (G_Board_check_county : Kn P w K mg base 1 835 ["self", "county"] (brdN K R_Board_check_county)) : Kn P w K mg base 2 914 ["self", "county"] (brdP K R_Board_towns_of) := by
  refine Kn.brdP T.f_Board_towns_of sc_Board_towns_of (fun _ _ _ _ _ _ us hl => match us, hl with | [_, _], _ => rfl) (fun B ds d r => ?_) fun cdv A outer s H0 E hr => ?_
  · obtain ⟨n, _, _, _, _, rfl, _⟩ := r
    rfl
  · refine ⟨_, (pss_cons (ps_expr (pm (pv 0) T.c_Board T.m_Board_check_county G_Board_check_county (hr.mono (by decide)) (pa_cons (pv 1) pa_nil))) (pss_cons (ps_set (i := 2) sc_Board_towns_of.nd rfl (Or.inr rfl) (pe_dget (hu_of hr) (pe_fld (pv 0) rfl) (pv 1) (fun _ _ => rfl))) (pss_one (ps_ret (pe_callTy call_tuple_of (by rfl) T.z_tuple (by decide +kernel) (pa_cons (pe_lc (own := [("town", 3)]) (g := (gName 3)) (tt := tYes) rfl sc_Board_towns_of.nd (pi_list (pe_callB (call_sortedD rfl) (by rfl) T.z_sorted (by decide +kernel) (pa_cons (pv 2) pa_nil))) (blkOk_by (N := N_Board_towns_of) (sc := defScope s_Board_towns_of) (by decide +kernel)) (fun _ _ _ _ _ => (pg_name (i := 3) sc_Board_towns_of.nd rfl (Or.inl rfl))) (fun _ _ _ _ _ => pts_nil) (fun _ _ _ _ _ => (pe_tup (pa_cons (pv 3) (pa_starK (K := K) rfl (pe_dget (hu_of hr) (pv 2) (pv 3) (fun _ _ => rfl)) pa_nil))))) pa_nil)))))), ?_⟩
    rintro b pl ws ds d I B s1 hB a ⟨c, cs, ts, f, zs, rfl, ok, hc, rfl⟩
    obtain ⟨v, rfl, av⟩ := a.one
    refine fun Dn q => sq_brdN (i := 0) rfl hB (ea_cons (ed_var rfl av) ea_nil) ⟨c, rfl, by rw [ok.val hc]; rfl⟩ s1 fun I1 H1 g1 => ?_
    refine sq_asg (K := K) (ed_dget (ed_book T.n_own_book T.c_Board rfl (hB.gr g1)) (ed_var rfl (av.gr g1)) (ok.val hc)) g1.sub fun bk I2 H2 g2 abk => ?_
    have hl := ok.tlen c hc
    refine sx_ret (g1.tr g2) q (ed_cb (ea_cons (ed_lcNY (K := K) (j := 3) (sortS (ts c)) D.str (townD (f c)) (ei_list (ed_cb (ea_cons (ed_var rfl abk) ea_nil) (rc_sortedD (by unfold innD; rw [List.map_map]; rfl) (by omega)))) (by rw [(sortS_perm (ts c)).length_eq]; omega) (fun _ => rfl) fun t ht y I3 H3 g3 ay => ?_) ea_nil) rc_tupL)
    cases ay
    exact ed_tup (ea_cons (ed_var rfl (.str t)) (ea_starT (ed_dget (ed_var rfl (abk.gr g3)) (ed_var rfl (.str t)) (innD_val ((sortS_perm _).mem_iff.mp ht))) ea_nil)) (by simp)
abbrev N_Board_county_at : List Str := ["self", "county", "end", "bounds"]
theorem sc_Board_county_at : FnScope N_Board_county_at ["self", "county", "end"] (defScope s_Board_county_at) := ⟨rfl, rfl, rfl, by decide +kernel, rfl, by decide +kernel, by decide +kernel⟩
def R_Board_county_at : Bd → List D → D → Prop := fun B ds d => ∃ c cs ts f zs, ds = [.str c, .int 0] ∧ BookOk B cs ts f zs ∧ c ∈ cs ∧ d = countyD (zs c)
theorem ok_Board_county_at (T : Txt K mg) (G_County_init : KnD P w K mg base 2 316 ["self", "runs"] (.ref 308) (initSp K 415 R_County_init)) : Kn P w K mg base 4 926 ["self", "county", "end"] (brdU K R_Board_county_at) := by
  refine Kn.brdU T.f_Board_county_at sc_Board_county_at (fun _ _ _ _ _ _ us hl => match us, hl with | [_, _, _], _ => rfl) (fun B ds d r => ?_) fun cdv A outer s H0 E hr => ?_
  · obtain ⟨n, _, _, _, _, rfl, _⟩ := r
    rfl
  · refine ⟨_, (pss_one (ps_ret (pmk T.k_County G_County_init.kn (hr.mono (by decide)) T.g_County (pa_cons (pe_lock (pe_lc (own := [("bounds", 3)]) (g := (gName 3)) (tt := tYes) rfl sc_Board_county_at.nd (pi_values (pe_dget (hu_of hr) (pe_fld (pv 0) rfl) (pv 1) (fun _ _ => rfl))) (blkOk_by (N := N_Board_county_at) (sc := defScope s_Board_county_at) (by decide +kernel)) (fun _ _ _ _ _ => (pg_name (i := 3) sc_Board_county_at.nd rfl (Or.inl rfl))) (fun _ _ _ _ _ => pts_nil) (fun _ _ _ _ _ => (pe_tup (pa_cons (pe_ix (ix_tupK (K := K) rfl) (pv 3) (pv 2) (fun _ _ => rfl)) (pa_cons pe_int pa_nil)))))) pa_nil)))), ?_⟩
    rintro b pl ws ds d I B s1 hB a ⟨c, cs, ts, f, zs, rfl, ok, hc, rfl⟩
    obtain ⟨v, u, rfl, av, au⟩ := a.two
    cases av
    cases au
    obtain ⟨dx, v1, v2, v3, v4, ps, h, k1, k3⟩ := id hB
    obtain ⟨a0, kvs, rfl, ha0, asB⟩ := k1
    obtain ⟨u, hu, a', kv', rfl, ha', as'⟩ := asB.val (ok.val hc)
    refine rt_ret (ed_make (ea_cons (ed_lock (d := .lst (((ts c).map fun t => ((f c t).1, (1 : Int))).map encP)) ha' fun od I1 H1 g1 => ?_) ea_nil) ⟨_, zs c, .inl rfl, ok.ok c hc, rfl⟩) s1
    have h1 := h.gr g1
    have e' := g1.ext _ _ ha'
    have n1 : b ≠ a' := fun z => by
      have := h1.nb
      rw [z, e'] at this
      cases this
    refine (ed_lcNY (K := K) (j := 3) (ts c) (fun t => .tup [.int (f c t).1, .int (f c t).2]) (fun t => encP ((f c t).1, 1)) ((ei_vals (kds := innD (ts c) (f c)) fun I2 H2 g2 Q q => ?_).is ?_) (by have := ok.tlen c hc; omega) (fun _ => rfl) fun t ht y I3 H3 g3 ay => ?_).is ?_
    · have rd : Rd H2 a0 (.dK kvs) := (sub_le g2.sub).rd a0 (.dK kvs) (fun _ _ z => nomatch z) (g2.le.rd a0 (.dK kvs) (fun _ _ z => nomatch z) ((lock_le e').rd a0 (.dK kvs) (fun _ _ z => nomatch z) (.inl (g1.ext _ _ ha0))))
      refine ⟨.ref b, rfl, b, 1051, dx, _, .ref a0, rfl, g2.keep b _ (by rw [upd_ne n1]; exact h1.nb) (by rw [upd_ne n1]; exact h1.hb) (by simp), T.c_Board, T.n_own_book, rfl, .str c, rfl, a0, .ref a', rfl, .inl ⟨kvs, .inr c, rd, rfl, hu.symm⟩, q (.ref a') I2 H2 (.refl g2.sub) ⟨a', od, kv', rfl, g2.ext _ _ upd_same, ?_⟩⟩
      exact (AtK.le (lock_le e') _ (as'.gr g1)).gr g2
    · unfold innD
      rw [List.map_map]
      rfl
    · exact ed_tup (ea_cons (ed_op (ed_var rfl ay) (ed_var rfl (.int 0)) (rd_ixT rfl)) (ea_cons ed_int ea_nil)) (by simp)
    · rw [List.map_map]
      rfl
def inC (ys : List P2) (n : Int) : Bool := (ys.map fun p => decide (p.1 = n)).any id
noncomputable def shownOf (W : List (Bool × Int)) (cs : List Str) (ts : Str → List Str) (f : Str → Str → Int × Int) (zs : Str → List P2) : List (Str × Str) := (sortS cs).flatMap fun c => ((sortS (ts c)).filter fun t => inC (W.foldl (fun c s => stepC s c) (zs c)) (f c t).1).map fun t => (c, t)
def pairS (p : Str × Str) : D := .tup [.str p.1, .str p.2]
theorem RunsOk.fold {ys : List P2} (h : RunsOk ys ys) : ∀ (l : List (Bool × Int)), RunsOk (l.foldl (fun c s => stepC s c) ys) (l.foldl (fun c s => stepC s c) ys) := by
  intro l
  induction l generalizing ys with
  | nil => exact h
  | cons s l ih => exact ih (h.step s)
abbrev N_Board_shown_at : List Str := ["self", "name", "end", "whole", "found", "county", "shown", "town"]
theorem sc_Board_shown_at : FnScope N_Board_shown_at ["self", "name", "end"] (defScope s_Board_shown_at) := ⟨rfl, rfl, rfl, by decide +kernel, rfl, by decide +kernel, by decide +kernel⟩
def R_Board_shown_at : Bd → List D → D → Prop := fun B ds d => ∃ n cs ts f zs, ds = [.str n, .int 0] ∧ BookOk B cs ts f zs ∧ n ∈ B.reps.map (·.1) ∧ B.house.length + (repOf B.reps n).length < 900 ∧ d = .tup ((shownOf (B.house ++ repOf B.reps n) cs ts f zs).map pairS)
theorem ok_Board_shown_at (T : Txt K mg) (G_Board_whole : Kn P w K mg base 8 921 ["self", "name"] (brdP K R_Board_whole)) (G_Board_county_at : Kn P w K mg base 4 926 ["self", "county", "end"] (brdU K R_Board_county_at)) (G_Board_towns_of : Kn P w K mg base 2 914 ["self", "county"] (brdP K R_Board_towns_of)) (G_Script_call : Kn P w K mg base 6 697 ["self", "county"] (pureSp K R_Script_call)) (G_County_contains : Kn P w K mg base 1 374 ["self", "size"] (pureSp K R_County_contains)) : Kn P w K mg base 9 931 ["self", "name", "end"] (brdU K R_Board_shown_at) := by
  refine Kn.brdU T.f_Board_shown_at sc_Board_shown_at (fun _ _ _ _ _ _ us hl => match us, hl with | [_, _, _], _ => rfl) (fun B ds d r => ?_) fun cdv A outer s H0 E hr => ?_
  · obtain ⟨n, _, _, _, _, rfl, _⟩ := r
    rfl
  · refine ⟨_, (pss_cons (ps_par (i := 3) (j := 4) rfl sc_Board_shown_at.nd rfl rfl (by decide) rfl rfl (pa_cons (pm (pv 0) T.c_Board T.m_Board_whole G_Board_whole (hr.mono (by decide)) (pa_cons (pv 1) pa_nil)) (pa_cons (pe_lst pa_nil) pa_nil)) (by rfl)) (pss_cons (ps_for PassesOwn.never rfl (pi_list (pe_callB (call_sortedD rfl) (by rfl) T.z_sorted (by decide +kernel) (pa_cons (pe_fld (pv 0) rfl) pa_nil))) (pg_name (i := 5) sc_Board_shown_at.nd rfl (Or.inr rfl)) (pss_cons (ps_set (i := 6) sc_Board_shown_at.nd rfl (Or.inr rfl) (pcO (pv 3) T.m_Script_call T.i_Script_call G_Script_call (hr.mono (by decide)) (pa_cons (pm (pv 0) T.c_Board T.m_Board_county_at G_Board_county_at (hr.mono (by decide)) (pa_cons (pv 5) (pa_cons (pv 2) pa_nil))) pa_nil))) (pss_one (ps_expr (pe_bm PySem.F.plainAttrs_list PySem.F.slot_list_extend PySem.F.type_list_extend mt_extend (pv 4) (pa_cons (pe_lc (own := [("town", 7)]) (g := (gName 7)) rfl sc_Board_shown_at.nd (pi_tup (pm (pv 0) T.c_Board T.m_Board_towns_of G_Board_towns_of (hr.mono (by decide)) (pa_cons (pv 5) pa_nil))) (blkOk_by (N := N_Board_shown_at) (sc := defScope s_Board_shown_at) (by decide +kernel)) (fun _ _ _ _ _ => (pg_name (i := 7) sc_Board_shown_at.nd rfl (Or.inl rfl))) (fun _ _ _ _ _ => (pts_one (pt_cmpR (op_ownIn T.m_County_contains G_County_contains (hr.mono (by decide))) (pe_ix (ix_tupK (K := K) rfl) (pv 7) (pe_op op_add pe_int (pv 2)) (fun _ _ => rfl)) (pv 6) (by rfl)))) (fun _ _ _ _ _ => (pe_tup (pa_cons (pv 5) (pa_cons (pe_ix (ix_tupK (K := K) rfl) (pv 7) pe_int (fun _ _ => rfl)) pa_nil))))) pa_nil)))))) (pss_one (ps_ret (pe_callTy call_tuple_of (by rfl) T.z_tuple (by decide +kernel) (pa_cons (pv 4) pa_nil)))))), ?_⟩
    rintro b pl ws ds d I B s1 hB a ⟨nm, cs, ts, f, zs, rfl, ok, hn, hz, rfl⟩
    obtain ⟨v, u, rfl, av, au⟩ := a.two
    cases au
    generalize hW : B.house ++ repOf B.reps nm = W
    refine fun Dn q => sq_parEN (K := K) (d := scriptD W) ((ed_brdP (i := 0) rfl hB.l (ea_cons (ed_var rfl av) ea_nil) ⟨nm, rfl, hn, hz, rfl⟩).is (by rw [hW])) s1 fun wv l I2 H2 g2 aw hl nl2 hl2 => ?_
    have part : ∀ i, (((sortS cs).take i).flatMap fun c => ((sortS (ts c)).filter fun t => inC (W.foldl (fun c s => stepC s c) (zs c)) (f c t).1).map fun t => (c, t)).length ≤ 3600 := fun i => by
      have z1 : ((sortS cs).take i).length ≤ cs.length := by
        rw [List.length_take, (sortS_perm cs).length_eq]
        exact Nat.min_le_right _ _
      have z2 := flat_len (xs := (sortS cs).take i) (ys := fun c => ((sortS (ts c)).filter fun t => inC (W.foldl (fun c s => stepC s c) (zs c)) (f c t).1).map fun t => (c, t)) (n := 60) fun c hc => by
        have hc' : c ∈ cs := (sortS_perm _).mem_iff.mp ((List.take_sublist _ _).subset hc)
        have e2 := List.length_filter_le (fun t => inC (W.foldl (fun c s => stepC s c) (zs c)) (f c t).1) (sortS (ts c))
        have e3 := (sortS_perm (ts c)).length_eq
        have := ok.tlen c hc'
        rw [List.length_map]
        omega
      have := ok.len
      omega
    refine sq_for (K := K) (M := [l]) (sortS cs) D.str (fun i σ1 I3 H3 => ∃ ys q5 q6, Gr [] I H0 I3 H3 ∧ At K I3 wv (scriptD W) ∧ I3 l = none ∧ H3 l = some (.lst ys) ∧ AtL K I3 ys ((((sortS cs).take i).flatMap fun c => ((sortS (ts c)).filter fun t => inC (W.foldl (fun c s => stepC s c) (zs c)) (f c t).1).map fun t => (c, t)).map pairS) ∧ σ1 = [some (.ref b), some v, some (.int 0), some wv, some (.ref l), q5, q6, none])
      (ei_list (ed_cb (ea_cons (ed_book T.n_own_book T.c_Board rfl (hB.l.gr g2)) ea_nil) (rc_sortedD (by rw [ok.book, List.map_map]; rfl) (by have := ok.len; omega)))) g2.sub (fun I3 H3 g3 => ⟨[], _, _, g2.tr g3, aw.gr g3, g3.out l _ nl2 hl2, g3.keep l _ nl2 hl2 (by simp), .nil, rfl⟩) ?_ ?_
    · rintro i c x σ1 I3 H3 hp ⟨ys, q5, q6, g3, aw3, n3, h3, a3', rfl⟩ I4 H4 g4 a4 N hN
      have hc : c ∈ cs := (sortS_perm _).mem_iff.mp (List.mem_of_getElem? hp)
      refine bd_name x I4 H4 g4.sub a4 _ ?_
      rintro σ2 ⟨x1, ax1, rfl⟩
      cases ax1
      have g04 := g3.tr g4
      have okz := (ok.ok c hc).self
      refine sq_asg (K := K) (d := countyD (W.foldl (fun c s => stepC s c) (zs c))) (ed_callO (K := K) (ed_var rfl (aw3.gr g4)) (ea_cons (ed_brdU (i := 0) rfl (hB.gr g04) (ea_cons (ed_var rfl (.str c)) (ea_cons (ed_var rfl (.int 0)) ea_nil)) ⟨c, cs, ts, f, zs, rfl, ok, hc, rfl⟩) ea_nil) ⟨W, zs c, rfl, okz, rfl⟩) g4.sub fun sv I5 H5 g5 a5 => ?_
      have g05 := g04.tr g5
      have n5 := g5.out l _ (g4.out l _ n3 h3) (g4.keep l _ n3 h3 (by simp))
      have h5 := g5.keep l _ (g4.out l _ n3 h3) (g4.keep l _ n3 h3 (by simp)) (by simp)
      have a5' := (a3'.gr g4).gr g5
      refine sx_ext (K := K) (i := 4) (l := l) (xs := ys) (ds := (((sortS (ts c)).filter fun t => inC (W.foldl (fun c s => stepC s c) (zs c)) (f c t).1).map fun t => (c, t)).map pairS) rfl h5 n5 ((ed_lcN (K := K) (j := 7) (sortS (ts c)) (townD (f c)) (fun t => inC (W.foldl (fun c s => stepC s c) (zs c)) (f c t).1) (fun t => pairS (c, t)) (ei_tup (ed_brdP (i := 0) rfl (hB.l.gr g05) (ea_cons (ed_var rfl (.str c)) ea_nil) ⟨c, cs, ts, f, zs, rfl, ok, hc, rfl⟩)) (by have := ok.tlen c hc; rw [(sortS_perm (ts c)).length_eq]; omega) fun t ht y I6 H6 g6 ay => ?_).is (by rw [List.map_map]; rfl)) g5.sub ?_ fun zs' I6 H6 g6 a6 h6 n6 => ?_
      · exact ⟨rfl, eb_test (K := K) (ed_op (ed_op (ed_var rfl ay) (ed_op ed_int (ed_var rfl (.int 0)) rd_I0) (rd_ixT rfl)) (ed_var rfl (a5.gr g6)) (rd_ownIn ⟨_, _, rfl, okz.fold W, rfl⟩)), fun _ => ed_tup (ea_cons (ed_var rfl (.str c)) (ea_cons (ed_op (ed_var rfl ay) ed_int (rd_ixT rfl)) ea_nil)) (by simp)⟩
      · rw [a5'.length, List.length_map, List.length_map, List.length_map]
        have e1 := part i
        have e2 := List.length_filter_le (fun t => inC (W.foldl (fun c s => stepC s c) (zs c)) (f c t).1) (sortS (ts c))
        have e3 := (sortS_perm (ts c)).length_eq
        have := ok.tlen c hc
        omega
      · refine hN _ I6 _ (((g5.tr g6).any).mutM (by simp) n6) ⟨ys ++ zs', _, _, (g05.tr g6).mut hl n6, ((aw3.gr g4).gr g5).gr g6, n6, upd_same, ?_, rfl⟩
        rw [take_succ hp, List.flatMap_append, List.map_append, List.flatMap_cons, List.flatMap_nil, List.append_nil]
        exact (a5'.gr g6).append a6
    · rintro σ1 I3 H3 s3 ⟨ys, q5, q6, g3, aw3, n3, h3, a3', rfl⟩
      rw [List.take_length] at a3'
      exact sx_rtup g3 hl rfl h3 n3 a3' q
abbrev N_Board_sure : List Str := ["self", "name"]
theorem sc_Board_sure : FnScope N_Board_sure ["self", "name"] (defScope s_Board_sure) := ⟨rfl, rfl, rfl, by decide +kernel, rfl, by decide +kernel, by decide +kernel⟩
def R_Board_sure : Bd → List D → D → Prop := fun B ds d => ∃ n cs ts f zs, ds = [.str n] ∧ BookOk B cs ts f zs ∧ n ∈ B.reps.map (·.1) ∧ B.house.length + (repOf B.reps n).length < 900 ∧ d = .tup ((shownOf (B.house ++ repOf B.reps n) cs ts f zs).map pairS)
theorem ok_Board_sure (T : Txt K mg) (G_Board_shown_at : Kn P w K mg base 9 931 ["self", "name", "end"] (brdU K R_Board_shown_at)) : Kn P w K mg base 10 938 ["self", "name"] (brdU K R_Board_sure) := by
  refine Kn.brdU T.f_Board_sure sc_Board_sure (fun _ _ _ _ _ _ us hl => match us, hl with | [_, _], _ => rfl) (fun B ds d r => ?_) fun cdv A outer s H0 E hr => ?_
  · obtain ⟨n, _, _, _, _, rfl, _⟩ := r
    rfl
  · refine ⟨_, (pss_one (ps_ret (pm (pv 0) T.c_Board T.m_Board_shown_at G_Board_shown_at (hr.mono (by decide)) (pa_cons (pv 1) (pa_cons pe_int pa_nil))))), ?_⟩
    rintro b pl ws ds d I B s1 hB a ⟨nm, cs, ts, f, zs, rfl, ok, hn, hz, rfl⟩
    obtain ⟨v, rfl, av⟩ := a.one
    exact rt_ret (ed_brdU (i := 0) rfl hB (ea_cons (ed_var rfl av) (ea_cons ed_int ea_nil)) ⟨nm, cs, ts, f, zs, rfl, ok, hn, hz, rfl⟩) s1
end
end K98

/-! S9d: _law_same of equal data. -/
namespace K98
open PySem PySem.Spec PyProof.Rows L2
def Lv : Nat → D → Prop
  | 0, d => ∃ x, d = .str x
  | n + 1, d => (∃ x, d = .str x) ∨ ∃ ds, (d = .lst ds ∨ d = .tup ds) ∧ ds.length < 100 ∧ ∀ e ∈ ds, Lv n e
def R_same (n : Nat) : List D → D → Prop := fun ds d => ∃ e, ds = [e, e] ∧ Lv n e ∧ d = .bl true
def tyD : D → String
  | .str _ => "str"
  | .lst _ => "list"
  | .tup _ => "tuple"
  | .bl _ => "bool"
  | .int _ => "int"
  | _ => ""
section
variable {K : PySem.W.Frag} {σ : L2.St} {I H I' H' : Hp} {ta tb te tc : TE} {d e : D}
theorem ty_at {v : V} (a : At K I v d) (s : Sub I H) (hd : (tyD d == "") = false) : TyX K H v (.type (tyD d)) := by
  cases a with
  | str x => exact .base (.str x)
  | bl x => exact .base (.bl x)
  | int x => exact .base (.int x)
  | lst h1 h2 => exact .base (.lst (s _ _ h1))
  | tup h1 h2 =>
    rcases (sub_le s).t h1 with (z | ⟨o, z⟩) | ⟨o, its, n, z, c, _⟩
    · exact .base (.tup z)
    · exact .fTuple z
    · exact .kTuple z c
  | _ => cases hd
theorem rc_isiTy {m : String} {b : Bool} (hd : (tyD d == "") = false) (hk : PySem.W.kitOne K (.type (tyD d)) (.type m) = some b) : RcD K (rIsi K) [d, .val (.ty m)] (.bl b) := fun xs I H s as Q q => by
  obtain ⟨v, u, rfl, av, au⟩ := as.two
  cases au
  exact ⟨v, _, _, _, b, rfl, .ty m, ty_at av s hd, hk, q _ I H (.refl s) (.bl _)⟩
theorem ed_isiT {m1 m2 : String} {b : Bool} (h : EvD K te σ I H d) (hd : (tyD d == "") = false) (hk : PySem.W.kitAny K (.type (tyD d)) [.type m1, .type m2] = some b) : EvD K (tCB (rIsiT K) (tCons te (tCons (tTup (tCons (tC (.ty m1)) (tCons (tC (.ty m2)) tNil))) tNil))) σ I H (.bl b) := fun I1 H1 g Q q =>
  h I1 H1 g _ fun v I2 H2 g2 a => ⟨by show 2 ≤ _; decide, fun tp htp => by
    have g3 : Gr [] I2 H2 I2 (upd H2 tp (.tup [.ty m1, .ty m2])) := .side g2.sub htp
    exact ⟨v, tp, _, _, [.type m1, .type m2], b, rfl, upd_same, .cons (.ty _) (.cons (.ty _) .nil), ty_at a g3.sub hd, hk, q _ I2 _ (g2.tr g3) (.bl _)⟩⟩
theorem rd_eqB {i j : Bool} : RvD K rEq (.bl i) (.bl j) (.bl (decide (i = j))) := fun x y I H s hx hy Q q => by
  cases hx
  cases hy
  refine ⟨rfl, ?_⟩
  have e : decide (V.bl i = V.bl j) = decide (i = j) := by cases i <;> cases j <;> rfl
  rw [e]
  exact q _ I H (.refl s) (.bl _)
theorem rd_neB {i j : Bool} : RvD K rNe (.bl i) (.bl j) (.bl (!decide (i = j))) := fun x y I H s hx hy Q q => by
  cases hx
  cases hy
  refine ⟨rfl, ?_⟩
  have e : decide (V.bl i = V.bl j) = decide (i = j) := by cases i <;> cases j <;> rfl
  rw [e]
  exact q _ I H (.refl s) (.bl _)
theorem ed_isNS {x : Str} (h : EvD K te σ I H (.str x)) : EvD K (tIsN te) σ I H (.bl false) := fun I1 H1 g Q q => h I1 H1 g _ fun v I2 H2 g2 a => by
  cases a
  exact q _ I2 H2 g2 (.bl false)
theorem itzT_D {a b : Addr} {xs ys : List V} {ds es : List D} (hx : SqT K I a xs) (hy : SqT K I b ys) (ax : AtL K I xs ds) (ay : AtL K I ys es) : ItD K (RZ.ItzT K a b) I ((ds.zip es).map fun z => D.tup [z.1, z.2]) := by
  have get : ∀ {i : Nat} {d : D}, ((ds.zip es).map fun z => D.tup [z.1, z.2])[i]? = some d → ∃ d1 d2 x y, ds[i]? = some d1 ∧ es[i]? = some d2 ∧ xs[i]? = some x ∧ ys[i]? = some y ∧ At K I x d1 ∧ At K I y d2 ∧ d = .tup [d1, d2] := fun {i d} e => by
    rw [List.getElem?_map] at e
    obtain ⟨⟨d1, d2⟩, hz, rfl⟩ := Option.map_eq_some_iff.mp e
    obtain ⟨h1, h2⟩ := List.getElem?_zip_eq_some.mp hz
    obtain ⟨x, e1, a1⟩ := ax.get h1
    obtain ⟨y, e2, a2⟩ := ay.get h2
    exact ⟨d1, d2, x, y, h1, h2, e1, e2, a1, a2, rfl⟩
  refine ⟨fun i d I3 H3 le s e => ?_, fun i d I3 H3 x H4 le s e y => ?_, fun I3 H3 le s => ?_⟩
  · obtain ⟨d1, d2, x, y, _, _, e1, e2, _⟩ := get e
    exact ⟨xs, ys, x, y, (sub_le s).t (le.le.t hx), (sub_le s).t (le.le.t hy), e1, e2⟩
  · obtain ⟨d1, d2, x1, y1, _, _, e1, e2, a1, a2, rfl⟩ := get e
    obtain ⟨T, x2, y2, rfl, hT, rfl, z1, z2⟩ := y
    have w1 := z1 _ ((sub_le s).t (le.le.t hx))
    have w2 := z2 _ ((sub_le s).t (le.le.t hy))
    rw [e1] at w1
    rw [e2] at w2
    cases w1
    cases w2
    exact ⟨upd I3 T _, .new s hT, at_tup (.cons (At.le le.le _ a1) (.cons (At.le le.le _ a2) .nil)) (sub_free s hT)⟩
  · refine ⟨xs, ys, (sub_le s).t (le.le.t hx), (sub_le s).t (le.le.t hy), ?_⟩
    rw [List.length_map, List.length_zip, ax.length, ay.length]
    omega
theorem ei_zipAL {ta : TA} {ds es : List D} (h : EvA K ta σ I H [.lst ds, .lst es]) : EvI K (RZ.iZipA K ta) σ I H ((ds.zip es).map fun z => D.tup [z.1, z.2]) := fun I1 H1 g R q =>
  h I1 H1 g _ fun vs I2 H2 g2 as => by
    obtain ⟨v, u, rfl, av, au⟩ := as.two
    cases av with
    | lst k1 k2 =>
      cases au with
      | lst k3 k4 => exact ⟨_, _, _, _, rfl, .inl ⟨.of (g2.sub _ _ k1), .of (g2.sub _ _ k3), q _ I2 H2 g2 (itz_D k1 k3 k2 k4)⟩⟩
theorem ei_zipAT {ta : TA} {ds es : List D} (h : EvA K ta σ I H [.tup ds, .tup es]) : EvI K (RZ.iZipA K ta) σ I H ((ds.zip es).map fun z => D.tup [z.1, z.2]) := fun I1 H1 g R q =>
  h I1 H1 g _ fun vs I2 H2 g2 as => by
    obtain ⟨v, u, rfl, av, au⟩ := as.two
    cases av with
    | tup k1 k2 =>
      cases au with
      | tup k3 k4 => exact ⟨_, _, _, _, rfl, .inr ⟨(sub_le g2.sub).t k1, (sub_le g2.sub).t k3, q _ I2 H2 g2 (itzT_D k1 k3 k2 k4)⟩⟩
end
theorem zip_self : ∀ ds : List D, ds.zip ds = ds.map fun d => (d, d)
  | [] => rfl
  | d :: ds => by rw [List.zip_cons_cons, zip_self ds, List.map_cons]
section
variable {P : Program} {w : World} {K : PySem.W.Frag} {mg : Str → Option Value} {base : Heap}
abbrev N_law_same : List Str := ["_law_got", "_law_goal", "_law_mine_so", "_law_own"]
theorem sc_law_same : FnScope N_law_same ["_law_got", "_law_goal"] (defScope s_law_same) := ⟨rfl, rfl, rfl, by decide +kernel, rfl, by decide +kernel, by decide +kernel⟩
theorem ok_law_same0 (T : Txt K mg) : Kn P w K mg base 1 1088 ["_law_got", "_law_goal"] (pureSp K (R_same 0)) := by
  refine Kn.pure T.f_law_same sc_law_same (fun _ _ _ _ _ _ us hl => match us, hl with | [_, _], _ => rfl) (fun ds d r => ?_) fun cdv A outer s H0 E hr => ?_
  · obtain ⟨e, rfl, _⟩ := r
    rfl
  · refine ⟨_, (pss_cons (ps_if (pt_val (pe_callB call_isiT (by rfl) T.z_isinstance (by decide +kernel) (pa_cons (pv 1) (pa_cons (pe_tup (pa_cons (pe_bltn (v := .ty "list") (u := .type "list") rfl T.z_list (by decide +kernel) rfl) (pa_cons (pe_bltn (v := .ty "tuple") (u := .type "tuple") rfl T.z_tuple (by decide +kernel) rfl) pa_nil))) pa_nil)))) (pss_cons (ps_if (PW.pt (pw_or (pt_cmpR op_ne (pe_callB call_isi (by rfl) T.z_isinstance (by decide +kernel) (pa_cons (pv 0) (pa_cons (pe_bltn (v := .ty "list") (u := .type "list") rfl T.z_list (by decide +kernel) rfl) pa_nil))) (pe_callB call_isi (by rfl) T.z_isinstance (by decide +kernel) (pa_cons (pv 1) (pa_cons (pe_bltn (v := .ty "list") (u := .type "list") rfl T.z_list (by decide +kernel) rfl) pa_nil))) (nomark _)) (pw_or1 (pt_cmpR op_ne (pe_callB call_isi (by rfl) T.z_isinstance (by decide +kernel) (pa_cons (pv 0) (pa_cons (pe_bltn (v := .ty "tuple") (u := .type "tuple") rfl T.z_tuple (by decide +kernel) rfl) pa_nil))) (pe_callB call_isi (by rfl) T.z_isinstance (by decide +kernel) (pa_cons (pv 1) (pa_cons (pe_bltn (v := .ty "tuple") (u := .type "tuple") rfl T.z_tuple (by decide +kernel) rfl) pa_nil))) (nomark _))))) (pss_one (ps_ret pe_bl)) pss_nil) (pss_one (ps_ret (pe_and (pe_cmpR op_eq (pe_callB call_len_str (by rfl) T.z_len PySem.boot_len (pa_cons (pv 0) pa_nil)) (pe_callB call_len_str (by rfl) T.z_len PySem.boot_len (pa_cons (pv 1) pa_nil)) (nomark _)) (pe_one pe_nv))))) pss_nil) (pss_cons (ps_if (PW.pt (pw_or (pt_cmp (pc_isN (pv 1))) (pw_or1 (pt_val (pe_callB call_isiT (by rfl) T.z_isinstance (by decide +kernel) (pa_cons (pv 1) (pa_cons (pe_tup (pa_cons (pe_bltn (v := .ty "bool") (u := .type "bool") rfl T.z_bool (by decide +kernel) rfl) (pa_cons (pe_bltn (v := .ty "str") (u := .type "str") rfl T.z_str (by decide +kernel) rfl) pa_nil))) pa_nil))))))) (pss_one (ps_ret (pe_and (pe_cmpR op_eq (pv 0) (pv 1) (nomark _)) (pe_and (pe_cmpR op_eq (pe_callB call_isi (by rfl) T.z_isinstance (by decide +kernel) (pa_cons (pv 0) (pa_cons (pe_bltn (v := .ty "bool") (u := .type "bool") rfl T.z_bool (by decide +kernel) rfl) pa_nil))) (pe_callB call_isi (by rfl) T.z_isinstance (by decide +kernel) (pa_cons (pv 1) (pa_cons (pe_bltn (v := .ty "bool") (u := .type "bool") rfl T.z_bool (by decide +kernel) rfl) pa_nil))) (nomark _)) (pe_one (pe_cmpR op_eq (pe_cmp (pc_isN (pv 0))) (pe_cmp (pc_isN (pv 1))) (nomark _))))))) pss_nil) (pss_one ps_never))), ?_⟩
    rintro vs ds d I s1 a ⟨_, rfl, ⟨x, rfl⟩, rfl⟩
    obtain ⟨v, u, rfl, av, au⟩ := a.two
    · refine fun Dn q => sq_ifN (eb_B (K := K) (ed_isiT (ed_var rfl (au)) rfl rfl)) s1 fun I1 H1 g1 => ?_
      have av1 := av.gr g1
      have au1 := au.gr g1
      cases av1
      cases au1
      refine sx_seq (sx_if (b := true) ((eb_or (a := false) (b := true) (eb_B (K := K) (ed_isNS (ed_var rfl (.str x)))) fun _ => eb_B (K := K) (ed_isiT (ed_var rfl (.str x)) rfl rfl)).is rfl) g1.sub (fun _ I2 H2 g2 => ?_) fun z => nomatch z)
      exact sx_ret (g1.tr g2) q ((ed_andV (a := true) (b := true) ((ed_op (ed_var rfl (.str x)) (ed_var rfl (.str x)) rd_eqS).is (by simp)) fun _ => ed_andV (a := true) (b := true) ((ed_op (ed_cb (ea_cons (ed_var rfl (.str x)) (ea_cons ed_val ea_nil)) (rc_isiTy (b := false) rfl rfl)) (ed_cb (ea_cons (ed_var rfl (.str x)) (ea_cons ed_val ea_nil)) (rc_isiTy (b := false) rfl rfl)) rd_eqB).is rfl) fun _ => (ed_op (ed_isNS (ed_var rfl (.str x))) (ed_isNS (ed_var rfl (.str x))) rd_eqB).is rfl).is rfl)

theorem ok_law_same (T : Txt K mg) {k n : Nat} (G_law_same : Kn P w K mg base k 1088 ["_law_got", "_law_goal"] (pureSp K (R_same n))) : Kn P w K mg base (k + 1) 1088 ["_law_got", "_law_goal"] (pureSp K (R_same (n + 1))) := by
  refine Kn.pure T.f_law_same sc_law_same (fun _ _ _ _ _ _ us hl => match us, hl with | [_, _], _ => rfl) (fun ds d r => ?_) fun cdv A outer s H0 E hr => ?_
  · obtain ⟨e, rfl, _⟩ := r
    rfl
  · refine ⟨_, (pss_cons (ps_if (pt_val (pe_callB call_isiT (by rfl) T.z_isinstance (by decide +kernel) (pa_cons (pv 1) (pa_cons (pe_tup (pa_cons (pe_bltn (v := .ty "list") (u := .type "list") rfl T.z_list (by decide +kernel) rfl) (pa_cons (pe_bltn (v := .ty "tuple") (u := .type "tuple") rfl T.z_tuple (by decide +kernel) rfl) pa_nil))) pa_nil)))) (pss_cons (ps_if (PW.pt (pw_or (pt_cmpR op_ne (pe_callB call_isi (by rfl) T.z_isinstance (by decide +kernel) (pa_cons (pv 0) (pa_cons (pe_bltn (v := .ty "list") (u := .type "list") rfl T.z_list (by decide +kernel) rfl) pa_nil))) (pe_callB call_isi (by rfl) T.z_isinstance (by decide +kernel) (pa_cons (pv 1) (pa_cons (pe_bltn (v := .ty "list") (u := .type "list") rfl T.z_list (by decide +kernel) rfl) pa_nil))) (nomark _)) (pw_or1 (pt_cmpR op_ne (pe_callB call_isi (by rfl) T.z_isinstance (by decide +kernel) (pa_cons (pv 0) (pa_cons (pe_bltn (v := .ty "tuple") (u := .type "tuple") rfl T.z_tuple (by decide +kernel) rfl) pa_nil))) (pe_callB call_isi (by rfl) T.z_isinstance (by decide +kernel) (pa_cons (pv 1) (pa_cons (pe_bltn (v := .ty "tuple") (u := .type "tuple") rfl T.z_tuple (by decide +kernel) rfl) pa_nil))) (nomark _))))) (pss_one (ps_ret pe_bl)) pss_nil) (pss_one (ps_ret (pe_and (pe_cmpR op_eq (pe_callB call_len_seq (by rfl) T.z_len PySem.boot_len (pa_cons (pv 0) pa_nil)) (pe_callB call_len_seq (by rfl) T.z_len PySem.boot_len (pa_cons (pv 1) pa_nil)) (nomark _)) (pe_one (pe_callB (cr_all rfl) (by rfl) T.z_all (by decide +kernel) (pa_cons (pe_lc (own := [("_law_mine_so", 2), ("_law_own", 3)]) (g := (gTup K 2 (gCons (gName 2) (gCons (gName 3) gNil)))) (tt := tYes) rfl sc_law_same.nd (RZ.pi_zipA (by rfl) T.z_zip (pa_cons (pv 0) (pa_cons (pv 1) pa_nil))) (blkOk_by (N := N_law_same) (sc := defScope s_law_same) (by decide +kernel)) (fun _ _ _ _ _ => (pg_tup rfl (pgs_cons (pg_name (i := 2) sc_law_same.nd rfl (Or.inl rfl)) (pgs_cons (pg_name (i := 3) sc_law_same.nd rfl (Or.inl rfl)) pgs_nil)))) (fun _ _ _ _ _ => pts_nil) (fun _ _ _ _ _ => (pc G_law_same (hr.mono (Nat.le_refl _)) T.g_law_same (pa_cons (pv 2) (pa_cons (pv 3) pa_nil))))) pa_nil))))))) pss_nil) (pss_cons (ps_if (PW.pt (pw_or (pt_cmp (pc_isN (pv 1))) (pw_or1 (pt_val (pe_callB call_isiT (by rfl) T.z_isinstance (by decide +kernel) (pa_cons (pv 1) (pa_cons (pe_tup (pa_cons (pe_bltn (v := .ty "bool") (u := .type "bool") rfl T.z_bool (by decide +kernel) rfl) (pa_cons (pe_bltn (v := .ty "str") (u := .type "str") rfl T.z_str (by decide +kernel) rfl) pa_nil))) pa_nil))))))) (pss_one (ps_ret (pe_and (pe_cmpR op_eq (pv 0) (pv 1) (nomark _)) (pe_and (pe_cmpR op_eq (pe_callB call_isi (by rfl) T.z_isinstance (by decide +kernel) (pa_cons (pv 0) (pa_cons (pe_bltn (v := .ty "bool") (u := .type "bool") rfl T.z_bool (by decide +kernel) rfl) pa_nil))) (pe_callB call_isi (by rfl) T.z_isinstance (by decide +kernel) (pa_cons (pv 1) (pa_cons (pe_bltn (v := .ty "bool") (u := .type "bool") rfl T.z_bool (by decide +kernel) rfl) pa_nil))) (nomark _)) (pe_one (pe_cmpR op_eq (pe_cmp (pc_isN (pv 0))) (pe_cmp (pc_isN (pv 1))) (nomark _))))))) pss_nil) (pss_one ps_never))), ?_⟩
    rintro vs ds d I s1 a ⟨_, rfl, ⟨x, rfl⟩ | ⟨es, rfl | rfl, hz, hall⟩, rfl⟩ <;> obtain ⟨v, u, rfl, av, au⟩ := a.two
    · refine fun Dn q => sq_ifN (eb_B (K := K) (ed_isiT (ed_var rfl (au)) rfl rfl)) s1 fun I1 H1 g1 => ?_
      have av1 := av.gr g1
      have au1 := au.gr g1
      cases av1
      cases au1
      refine sx_seq (sx_if (b := true) ((eb_or (a := false) (b := true) (eb_B (K := K) (ed_isNS (ed_var rfl (.str x)))) fun _ => eb_B (K := K) (ed_isiT (ed_var rfl (.str x)) rfl rfl)).is rfl) g1.sub (fun _ I2 H2 g2 => ?_) fun z => nomatch z)
      exact sx_ret (g1.tr g2) q ((ed_andV (a := true) (b := true) ((ed_op (ed_var rfl (.str x)) (ed_var rfl (.str x)) rd_eqS).is (by simp)) fun _ => ed_andV (a := true) (b := true) ((ed_op (ed_cb (ea_cons (ed_var rfl (.str x)) (ea_cons ed_val ea_nil)) (rc_isiTy (b := false) rfl rfl)) (ed_cb (ea_cons (ed_var rfl (.str x)) (ea_cons ed_val ea_nil)) (rc_isiTy (b := false) rfl rfl)) rd_eqB).is rfl) fun _ => (ed_op (ed_isNS (ed_var rfl (.str x))) (ed_isNS (ed_var rfl (.str x))) rd_eqB).is rfl).is rfl)
    · refine fun Dn q => sx_seq (sx_if (b := true) (eb_B (K := K) (ed_isiT (ed_var rfl au) rfl rfl)) s1 (fun _ I1 H1 g1 => ?_) fun z => nomatch z)
      refine sq_ifN ((eb_or (a := false) (b := false) ((eb_test (K := K) (ed_op (ed_cb (ea_cons (ed_var rfl (av.gr g1)) (ea_cons ed_val ea_nil)) (rc_isiTy (b := true) rfl rfl)) (ed_cb (ea_cons (ed_var rfl (au.gr g1)) (ea_cons ed_val ea_nil)) (rc_isiTy (b := true) rfl rfl)) rd_neB)).is rfl) fun _ => (eb_test (K := K) (ed_op (ed_cb (ea_cons (ed_var rfl (av.gr g1)) (ea_cons ed_val ea_nil)) (rc_isiTy (b := false) rfl rfl)) (ed_cb (ea_cons (ed_var rfl (au.gr g1)) (ea_cons ed_val ea_nil)) (rc_isiTy (b := false) rfl rfl)) rd_neB)).is rfl).is rfl) g1.sub fun I2 H2 g2 => ?_
      have av2 := (av.gr g1).gr g2
      have au2 := (au.gr g1).gr g2
      have key := ed_lc (K := K) (σ := L2.start N_law_same [v, u]) (H := H2) (tt := tYes) (te := tCall (pureSp K (R_same n)) [] E0 (tCons (tVar 2) (tCons (tVar 3) tNil))) es (fun e => D.tup [e, e]) (fun _ => true) (fun _ => .bl true) (fun s σ2 I => ∃ x y, At K I x s ∧ At K I y s ∧ σ2 = ((wipe (L2.start N_law_same [v, u]) [2, 3]).set 2 (some x)).set 3 (some y)) ((ei_zipAL (ea_cons (ed_var (i := 0) rfl av2) (ea_cons (ed_var (i := 1) rfl au2) ea_nil))).is (by rw [zip_self, List.map_map]; rfl)) (by omega) (fun s => bd_pair) fun s hs σ2 I3 H3 g ⟨x, y, ax, ay, e⟩ => by
        subst e
        exact ⟨rfl, eb_yes, fun _ => ed_call (ea_cons (ed_var rfl ax) (ea_cons (ed_var rfl ay) ea_nil)) ⟨s, rfl, hall s hs, rfl⟩⟩
      rw [filter_yes] at key
      refine sx_ret (g1.tr g2) q ((ed_andV (a := true) (b := true) ((ed_op (ed_cb (ea_cons (ed_var rfl av2) ea_nil) rc_lenL) (ed_cb (ea_cons (ed_var rfl au2) ea_nil) rc_lenL) rd_eqI).is (by simp)) fun _ => (ed_cb (ea_cons (key.is ?_) ea_nil) (rc_all (bs := es.map fun _ => true))).is ?_).is rfl)
      · rw [List.map_map]
        rfl
      · rw [List.all_map]
        congr 1
        exact List.all_eq_true.mpr fun _ _ => rfl
    · refine fun Dn q => sx_seq (sx_if (b := true) (eb_B (K := K) (ed_isiT (ed_var rfl au) rfl rfl)) s1 (fun _ I1 H1 g1 => ?_) fun z => nomatch z)
      refine sq_ifN ((eb_or (a := false) (b := false) ((eb_test (K := K) (ed_op (ed_cb (ea_cons (ed_var rfl (av.gr g1)) (ea_cons ed_val ea_nil)) (rc_isiTy (b := false) rfl rfl)) (ed_cb (ea_cons (ed_var rfl (au.gr g1)) (ea_cons ed_val ea_nil)) (rc_isiTy (b := false) rfl rfl)) rd_neB)).is rfl) fun _ => (eb_test (K := K) (ed_op (ed_cb (ea_cons (ed_var rfl (av.gr g1)) (ea_cons ed_val ea_nil)) (rc_isiTy (b := true) rfl rfl)) (ed_cb (ea_cons (ed_var rfl (au.gr g1)) (ea_cons ed_val ea_nil)) (rc_isiTy (b := true) rfl rfl)) rd_neB)).is rfl).is rfl) g1.sub fun I2 H2 g2 => ?_
      have av2 := (av.gr g1).gr g2
      have au2 := (au.gr g1).gr g2
      have key := ed_lc (K := K) (σ := L2.start N_law_same [v, u]) (H := H2) (tt := tYes) (te := tCall (pureSp K (R_same n)) [] E0 (tCons (tVar 2) (tCons (tVar 3) tNil))) es (fun e => D.tup [e, e]) (fun _ => true) (fun _ => .bl true) (fun s σ2 I => ∃ x y, At K I x s ∧ At K I y s ∧ σ2 = ((wipe (L2.start N_law_same [v, u]) [2, 3]).set 2 (some x)).set 3 (some y)) ((ei_zipAT (ea_cons (ed_var (i := 0) rfl av2) (ea_cons (ed_var (i := 1) rfl au2) ea_nil))).is (by rw [zip_self, List.map_map]; rfl)) (by omega) (fun s => bd_pair) fun s hs σ2 I3 H3 g ⟨x, y, ax, ay, e⟩ => by
        subst e
        exact ⟨rfl, eb_yes, fun _ => ed_call (ea_cons (ed_var rfl ax) (ea_cons (ed_var rfl ay) ea_nil)) ⟨s, rfl, hall s hs, rfl⟩⟩
      rw [filter_yes] at key
      refine sx_ret (g1.tr g2) q ((ed_andV (a := true) (b := true) ((ed_op (ed_cb (ea_cons (ed_var rfl av2) ea_nil) rc_lenT) (ed_cb (ea_cons (ed_var rfl au2) ea_nil) rc_lenT) rd_eqI).is (by simp)) fun _ => (ed_cb (ea_cons (key.is ?_) ea_nil) (rc_all (bs := es.map fun _ => true))).is ?_).is rfl)
      · rw [List.map_map]
        rfl
      · rw [List.all_map]
        congr 1
        exact List.all_eq_true.mpr fun _ _ => rfl

end
end K98

/-! S9e: the law's example by hand. -/
namespace K98
open PySem PySem.Spec PyProof.Rows L2
def HL : List (Str × Str × List (Bool × Int)) := [("d", "county 9; town 3", [(false, 9), (true, 3)]), ("b", "town 3", [(true, 3)]), ("a", "county 7", [(false, 7)])]
def hB (i : Nat) : Bd := ⟨[], [], (HL.take i).map fun x => (x.1, x.2.2), i⟩
def hDl : List Deed := [("n", "a", 3, 3), ("n", "b", 2, 2), ("s", "a", 6, 6), ("s", "b", 4, 4)]
def hCs : List Str := ["n", "s"]
def hTs : Str → List Str := fun _ => ["a", "b"]
def hF : Str → Str → Int × Int := fun c t => if c = "n" then (if t = "a" then (3, 3) else (2, 2)) else (if t = "a" then (6, 6) else (4, 4))
def hZs : Str → List P2 := fun c => if c = "n" then [(2, 1), (3, 1)] else [(4, 1), (6, 1)]
def hBook : List (Key × D) := hCs.map fun c => (.inr c, .dic (innD (hTs c) (hF c)))
def hB1 (h : List (Bool × Int)) (n : Nat) : Bd := ⟨hBook, h, HL.map fun x => (x.1, x.2.2), n⟩
theorem sort_n : sortS ["n", "s"] = (["n", "s"] : List Str) := (sortS_eq (.refl _) (by decide)).symm
theorem sort_a : sortS ["a", "b"] = (["a", "b"] : List Str) := (sortS_eq (.refl _) (by decide)).symm
theorem sort_d : sortS ["d", "b", "a"] = (["a", "b", "d"] : List Str) := (sortS_eq (by decide) (by decide)).symm
theorem hOk (h : List (Bool × Int)) (n : Nat) : BookOk (hB1 h n) hCs hTs hF hZs := by
  refine ⟨rfl, by decide, fun c _ => by show 2 < 60; decide, fun c hc => ?_⟩
  have : c = ("n" : Str) ∨ c = ("s" : Str) := by simpa [hCs] using hc
  rcases this with rfl | rfl
  · exact ⟨by decide, by decide, by decide, by decide, by decide⟩
  · exact ⟨by decide, by decide, by decide, by decide, by decide⟩
theorem hBdOk (h : List (Bool × Int)) (hh : h.length < 5) (n : Nat) : BdOk (hB1 h n) := by
  refine ⟨by show (["d", "b", "a"] : List Str).Nodup; decide, by show 3 < 60; decide, fun m hm => ?_⟩
  have hm' : m ∈ (["d", "b", "a"] : List Str) := hm
  unfold wh
  rw [List.length_append]
  have : (repOf (hB1 h n).reps m).length ≤ 2 := by
    have : m = ("d" : Str) ∨ m = ("b" : Str) ∨ m = ("a" : Str) := by simpa using hm'
    rcases this with rfl | rfl | rfl
    · show (repOf (HL.map fun x => (x.1, x.2.2)) "d").length ≤ 2
      decide
    · show (repOf (HL.map fun x => (x.1, x.2.2)) "b").length ≤ 2
      decide
    · show (repOf (HL.map fun x => (x.1, x.2.2)) "a").length ≤ 2
      decide
  show h.length + _ < 10
  omega
theorem idle0 (n : Nat) : idleOf (hB1 [] n) = (["d"] : List Str) := by
  show (sortS ["d", "b", "a"]).filter (idleB (hB1 [] n)) = (["d"] : List Str)
  rw [sort_d]
  show (["a", "b", "d"] : List Str).filter (idleB ⟨[], [], HL.map fun x => (x.1, x.2.2), 0⟩) = (["d"] : List Str)
  decide +kernel
theorem idle7 (n : Nat) : idleOf (hB1 [(false, 7)] n) = (["b", "d"] : List Str) := by
  show (sortS ["d", "b", "a"]).filter (idleB (hB1 [(false, 7)] n)) = (["b", "d"] : List Str)
  rw [sort_d]
  show (["a", "b", "d"] : List Str).filter (idleB ⟨[], [(false, 7)], HL.map fun x => (x.1, x.2.2), 0⟩) = (["b", "d"] : List Str)
  decide +kernel
theorem shown_is {W : List (Bool × Int)} {L : List (Str × Str)} (h : ((["n", "s"] : List Str).flatMap fun c => ((["a", "b"] : List Str).filter fun t => inC (W.foldl (fun c s => stepC s c) (hZs c)) (hF c t).1).map fun t => (c, t)) = L) : shownOf W hCs hTs hF hZs = L := by
  show ((sortS ["n", "s"]).flatMap fun c => ((sortS ["a", "b"]).filter fun t => inC (W.foldl (fun c s => stepC s c) (hZs c)) (hF c t).1).map fun t => (c, t)) = L
  rw [sort_n, sort_a]
  exact h
def pA : List (Str × Str) := [("s", "a"), ("s", "b")]
def pB : List (Str × Str) := [("n", "a"), ("s", "a"), ("s", "b")]
theorem sure_d : shownOf ([] ++ repOf (HL.map fun x => (x.1, x.2.2)) "d") hCs hTs hF hZs = pA := shown_is (by decide +kernel)
theorem sure_b : shownOf ([] ++ repOf (HL.map fun x => (x.1, x.2.2)) "b") hCs hTs hF hZs = pB := shown_is (by decide +kernel)
theorem sure_a : shownOf ([] ++ repOf (HL.map fun x => (x.1, x.2.2)) "a") hCs hTs hF hZs = pA := shown_is (by decide +kernel)
theorem sure7 : shownOf ([(false, 7)] ++ repOf (HL.map fun x => (x.1, x.2.2)) "b") hCs hTs hF hZs = pA := shown_is (by decide +kernel)
theorem Lv.up : ∀ (n : Nat) {d : D}, Lv n d → Lv (n + 1) d
  | 0, d, h => .inl h
  | n + 1, d, .inl h => .inl h
  | n + 1, d, .inr ⟨ds, h1, h2, h3⟩ => .inr ⟨ds, h1, h2, fun e he => Lv.up n (h3 e he)⟩
theorem lv_strs {l : List Str} (h : l.length < 100) : Lv 1 (.tup (l.map D.str)) := .inr ⟨_, .inr rfl, by rw [List.length_map]; exact h, fun e he => by
  obtain ⟨x, _, rfl⟩ := List.mem_map.mp he
  exact ⟨x, rfl⟩⟩
theorem lv_pair (p : Str × Str) : Lv 1 (pairS p) := lv_strs (l := [p.1, p.2]) (by simp)
theorem lv_pairs {l : List (Str × Str)} (h : l.length < 100) : Lv 2 (.tup (l.map pairS)) := .inr ⟨_, .inr rfl, by rw [List.length_map]; exact h, fun e he => by
  obtain ⟨x, _, rfl⟩ := List.mem_map.mp he
  exact lv_pair x⟩
def strsT (l : List Str) : D := .tup (l.map D.str)
def prsT (l : List (Str × Str)) : D := .tup (l.map pairS)
def hGot : D := .lst ([strsT ["d"], prsT pA, prsT pB, prsT pA] ++ [strsT ["b", "d"], prsT pA])
theorem lv_got : Lv 3 hGot := .inr ⟨_, .inl rfl, by show 6 < 100; decide, fun e he => by
  have : e = strsT ["d"] ∨ e = prsT pA ∨ e = prsT pB ∨ e = prsT pA ∨ e = strsT ["b", "d"] ∨ e = prsT pA := by simpa using he
  rcases this with rfl | rfl | rfl | rfl | rfl | rfl
  · exact (lv_strs (l := ["d"]) (by decide)).up
  · exact lv_pairs (l := pA) (by decide)
  · exact lv_pairs (l := pB) (by decide)
  · exact lv_pairs (l := pA) (by decide)
  · exact (lv_strs (l := ["b", "d"]) (by decide)).up
  · exact lv_pairs (l := pA) (by decide)⟩
theorem hPut : ∀ (i : Nat) (p : Deed), hDl[i]? = some p → PutOk ((hDl.take i).foldl putB (hB 3)) p
  | 0, p, e => by
    cases e
    exact ⟨by decide, by decide, by decide, by decide, rfl, by decide, by decide⟩
  | 1, p, e => by
    cases e
    exact ⟨by decide, by decide, by decide, by decide, rfl, by decide, by decide⟩
  | 2, p, e => by
    cases e
    exact ⟨by decide, by decide, by decide, by decide, rfl, by decide, by decide⟩
  | 3, p, e => by
    cases e
    exact ⟨by decide, by decide, by decide, by decide, rfl, by decide, by decide⟩
  | n + 4, p, e => nomatch e
theorem hAfter : ({ hDl.foldl putB (hB 3) with np := (hB 3).np + 1 } : Bd) = hB1 [] 4 := rfl
section
variable {K : PySem.W.Frag} {σ : L2.St} {I H I' H' : Hp} {ta tb te tc : TE} {d e : D} {b pl : Addr} {B B' : Bd}
/-- the objects of M are new -/
theorem Gr.new0 {M : List Addr} {I1 H1 : Hp} (g : Gr [] I H I1 H1) (g2 : Gr M I1 H1 I' H') (hm : ∀ x ∈ M, H x = none) : Gr [] I H I' H' :=
  ⟨fun x o q => g2.ext x o (g.ext x o q), g2.sub, fun x o n q => g2.out x o (g.out x o n q) (g.keep x o n q (by simp)), fun x o n q c => g2.keep x o (g.out x o n q) (g.keep x o n q (by simp)) fun hx => by
    rw [hm x hx] at q
    cases q⟩
theorem sq_board {i : Nat} {w : TS} {Dn : Ends} (s : Sub I H) (k : ∀ b pl I1 H1, Gr [] I H I1 H1 → H b = none → H pl = none → Brd K b pl Bd0 I1 H1 → w Dn (σ.set i (some (.ref b))) H1) : tSeq (tAsg (tMake 1051 (bInitSp K) [] E0 tNil) (gName i)) w Dn σ H := by
  intro b dx nb ndx ne
  have g0 : Gr [] I H I (upd (upd H dx (.own b)) b (.ins 1051 dx [])) := (Gr.side (M := []) s ndx).mut nb (sub_free s nb)
  refine ⟨I, b, dx, rfl, g0.sub, sub_free s nb, upd_same, fun I2 H2 pl g2 hpl hB => ⟨rfl, ?_⟩⟩
  have hplH : H pl = none := g0.back hpl
  have g02 : Gr [] I H I2 H2 := by
    refine ⟨fun a o z => g2.ext a o z, g2.sub, fun a o n z => g2.out a o n (g0.keep a o n z (by simp)), fun a o n z _ => g2.keep a o n (g0.keep a o n z (by simp)) ?_⟩
    intro hm
    have e : a = b := by simpa using hm
    rw [e, nb] at z
    cases z
  exact k b pl I2 H2 g02 nb hplH hB
theorem sq_brdA {i : Nat} {m : Str} {t : TA} {ds : List D} {R : Bd → List D → Bd → Prop} {u : TS} {Dn : Ends} (hv : σ[i]? = some (some (.ref b))) (h : Brd K b pl B I H) (ha : EvA K t σ I H ds) (hr : R B ds B') (s : Sub I H) (k : ∀ pl' I1 H1, Gr [b, pl] I H I1 H1 → H pl' = none → Brd K b pl' B' I1 H1 → u Dn σ H1)
    (hn : ∀ v1 v2 v3 v4 pl, (boardF v1 v2 v3 v4 pl).lookup m = none := by intros; rfl) : tSeq (tDrop (tMeth 1051 m (brdA K R) [] E0 (tVar i) t)) u Dn σ H := by
  obtain ⟨dx, v1, v2, v3, v4, ps, h0, _⟩ := id h
  exact ⟨.ref b, hv, b, dx, _, rfl, h0.hb, hn _ _ _ _ _, ha I H (.refl s) _ fun vs I2 H2 g2 as => ⟨I2, b, pl, B, vs, ds, B', by rw [List.append_nil], g2.sub, h.gr g2, as, hr, fun pl' I3 H3 g3 hp b3 => k pl' I3 H3 (g2.any.trans g3 (h.gr g2).two) (g2.back hp) b3⟩⟩
end
section
variable {P : Program} {w : World} {K : PySem.W.Frag} {mg : Str → Option Value} {base : Heap}
abbrev N_law_by_hand_right : List Str := ["_law_plate", "_law_tag", "_law_text_so", "_law_got", "_law_goal"]
theorem sc_law_by_hand_right : FnScope N_law_by_hand_right [] (defScope s_law_by_hand_right) := ⟨rfl, rfl, rfl, by decide +kernel, rfl, by decide +kernel, by decide +kernel⟩
theorem ok_law_by_hand_right (T : Txt K mg) (G_Board_init : Kn P w K mg base 7 793 ["self"] (bInitSp K)) (G_Script_of : Kn P w K mg base 7 615 ["text"] (pureSp K R_Script_of)) (G_Board_setitem : Kn P w K mg base 3 902 ["self", "name", "script"] (brdM K R_Board_setitem)) (G_Board_attempt : Kn P w K mg base 5 1027 ["self", "deeds"] (brdA K R_Board_attempt)) (G_Board_idle : Kn P w K mg base 9 964 ["self"] (brdU K R_Board_idle)) (G_Board_sure : Kn P w K mg base 10 938 ["self", "name"] (brdU K R_Board_sure)) (G_Board_turn : Kn P w K mg base 3 999 ["self", "script"] (brdM K R_Board_turn)) (G_law_same : Kn P w K mg base 4 1088 ["_law_got", "_law_goal"] (pureSp K (R_same 3))) : Kn P w K mg base 12 1117 [] (pureSp K R_law_by_hand_right) := by
  refine Kn.pure T.f_law_by_hand_right sc_law_by_hand_right (fun _ _ _ _ _ _ us hl => match us, hl with | [], _ => rfl) (fun ds d r => ?_) fun cdv A outer s H0 E hr => ?_
  · obtain ⟨rfl, _⟩ := r
    rfl
  · refine ⟨_, (pss_cons (ps_set (i := 0) sc_law_by_hand_right.nd rfl (Or.inl rfl) (pmk0 T.k_Board G_Board_init (hr.mono (by decide)) T.g_Board)) (pss_cons (ps_for PassesOwn.never rfl (pi_tup (pe_tup (pa_cons (pe_tup (pa_cons pe_str (pa_cons pe_str pa_nil))) (pa_cons (pe_tup (pa_cons pe_str (pa_cons pe_str pa_nil))) (pa_cons (pe_tup (pa_cons pe_str (pa_cons pe_str pa_nil))) pa_nil))))) (pg_tup rfl (pgs_cons (pg_name (i := 1) sc_law_by_hand_right.nd rfl (Or.inl rfl)) (pgs_cons (pg_name (i := 2) sc_law_by_hand_right.nd rfl (Or.inl rfl)) pgs_nil))) (pss_one (ps_asg (psm T.g_Script (T.rea 1 rfl) T.t_Script_of G_Script_of (hr.mono (by decide)) (pa_cons (pv 2) pa_nil)) (pg_sub (pv 0) (pv 1) (set_own T.m_Board_setitem T.odd3.2.1 G_Board_setitem (hr.mono (by decide))))))) (pss_cons (ps_expr (pm (pv 0) T.c_Board T.m_Board_attempt G_Board_attempt (hr.mono (by decide)) (pa_cons (pe_tup (pa_cons (pe_tup (pa_cons pe_str (pa_cons pe_str (pa_cons pe_str (pa_cons pe_int (pa_cons pe_int pa_nil)))))) (pa_cons (pe_tup (pa_cons pe_str (pa_cons pe_str (pa_cons pe_str (pa_cons pe_int (pa_cons pe_int pa_nil)))))) (pa_cons (pe_tup (pa_cons pe_str (pa_cons pe_str (pa_cons pe_str (pa_cons pe_int (pa_cons pe_int pa_nil)))))) (pa_cons (pe_tup (pa_cons pe_str (pa_cons pe_str (pa_cons pe_str (pa_cons pe_int (pa_cons pe_int pa_nil)))))) pa_nil))))) pa_nil))) (pss_cons (ps_set (i := 3) sc_law_by_hand_right.nd rfl (Or.inl rfl) (pe_lst (pa_cons (pm0 (pv 0) T.c_Board T.m_Board_idle G_Board_idle (hr.mono (by decide))) (pa_cons (pm (pv 0) T.c_Board T.m_Board_sure G_Board_sure (hr.mono (by decide)) (pa_cons pe_str pa_nil)) (pa_cons (pm (pv 0) T.c_Board T.m_Board_sure G_Board_sure (hr.mono (by decide)) (pa_cons pe_str pa_nil)) (pa_cons (pm (pv 0) T.c_Board T.m_Board_sure G_Board_sure (hr.mono (by decide)) (pa_cons pe_str pa_nil)) pa_nil)))))) (pss_cons (ps_set (i := 4) sc_law_by_hand_right.nd rfl (Or.inl rfl) (pe_lst (pa_cons (pe_tup (pa_cons pe_str pa_nil)) (pa_cons (pe_tup (pa_cons (pe_tup (pa_cons pe_str (pa_cons pe_str pa_nil))) (pa_cons (pe_tup (pa_cons pe_str (pa_cons pe_str pa_nil))) pa_nil))) (pa_cons (pe_tup (pa_cons (pe_tup (pa_cons pe_str (pa_cons pe_str pa_nil))) (pa_cons (pe_tup (pa_cons pe_str (pa_cons pe_str pa_nil))) (pa_cons (pe_tup (pa_cons pe_str (pa_cons pe_str pa_nil))) pa_nil)))) pa_nil))))) (pss_cons (ps_set (i := 4) sc_law_by_hand_right.nd rfl (Or.inl rfl) (pe_op op_cat (pv 4) (pe_lst (pa_cons (pe_tup (pa_cons (pe_tup (pa_cons pe_str (pa_cons pe_str pa_nil))) (pa_cons (pe_tup (pa_cons pe_str (pa_cons pe_str pa_nil))) pa_nil))) pa_nil)))) (pss_cons (ps_expr (pm (pv 0) T.c_Board T.m_Board_turn G_Board_turn (hr.mono (by decide)) (pa_cons (psm T.g_Script (T.rea 1 rfl) T.t_Script_of G_Script_of (hr.mono (by decide)) (pa_cons pe_str pa_nil)) pa_nil))) (pss_one (ps_ret (pc G_law_same (hr.mono (by decide)) T.g_law_same (pa_cons (pe_op op_cat (pv 3) (pe_lst (pa_cons (pm0 (pv 0) T.c_Board T.m_Board_idle G_Board_idle (hr.mono (by decide))) (pa_cons (pm (pv 0) T.c_Board T.m_Board_sure G_Board_sure (hr.mono (by decide)) (pa_cons pe_str pa_nil)) pa_nil)))) (pa_cons (pe_op op_cat (pv 4) (pe_lst (pa_cons (pe_tup (pa_cons pe_str (pa_cons pe_str pa_nil))) (pa_cons (pe_tup (pa_cons (pe_tup (pa_cons pe_str (pa_cons pe_str pa_nil))) (pa_cons (pe_tup (pa_cons pe_str (pa_cons pe_str pa_nil))) pa_nil))) pa_nil)))) pa_nil)))))))))))), ?_⟩
    rintro vs ds d I s1 a ⟨rfl, rfl⟩
    cases a
    refine fun Dn q => sq_board (K := K) s1 fun b pl I1 H1 g1 hb0 hpl0 hB1' => ?_
    have hM : ∀ x ∈ [b, pl], H0 x = none := fun x hx => by
      rcases List.mem_cons.mp hx with rfl | hx
      · exact hb0
      · rw [List.mem_singleton.mp hx]
        exact hpl0
    refine sq_for (K := K) (M := [b, pl]) HL (fun x => D.tup [.str x.1, .str x.2.1]) (fun i σ1 I2 H2 => ∃ q1 q2, Gr [] I H0 I2 H2 ∧ Brd K b pl (hB i) I2 H2 ∧ σ1 = [some (.ref b), q1, q2, none, none])
      ((ei_tup (ed_tup (ea_cons (ed_tup ((ea_cons ed_str (ea_cons ed_str ea_nil))) (by simp)) (ea_cons (ed_tup ((ea_cons ed_str (ea_cons ed_str ea_nil))) (by simp)) (ea_cons (ed_tup ((ea_cons ed_str (ea_cons ed_str ea_nil))) (by simp)) ea_nil))) (by simp))).is rfl) g1.sub (fun I2 H2 g2 => ⟨_, _, g1.tr g2, hB1'.gr g2, rfl⟩) ?_ ?_
    · rintro i p x σ1 I2 H2 hp ⟨q1, q2, g2, hB2, rfl⟩ I3 H3 g3 a3 N hN
      refine bd_pair x I3 H3 g3.sub a3 _ ?_
      rintro σ2 ⟨x1, y1, ax1, ay1, rfl⟩
      have hi : i < 3 := (List.getElem?_eq_some_iff.mp hp).1
      have hct : (p.2.1, p.2.2) ∈ CT ∧ ((hB i).reps.map (·.1)).Nodup ∧ p.1 ∉ (hB i).reps.map (·.1) ∧ (hB i).reps.length < 1000 ∧ (hB i).np < 90000 ∧ hB (i + 1) = { hB i with reps := (hB i).reps ++ [(p.1, p.2.2)], np := (hB i).np + 1 } := by
        rcases (show i = 0 ∨ i = 1 ∨ i = 2 by omega) with rfl | rfl | rfl
        · cases hp
          exact ⟨by decide, by decide, by decide, by decide, by decide, rfl⟩
        · cases hp
          exact ⟨by decide, by decide, by decide, by decide, by decide, rfl⟩
        · cases hp
          exact ⟨by decide, by decide, by decide, by decide, by decide, rfl⟩
      obtain ⟨c1, c2, c3, c4, c5, c6⟩ := hct
      refine sx_brdSet (K := K) (b := b) (pl := pl) (B := hB i) (B' := hB (i + 1)) (dk := .str p.1) (dv := scriptD p.2.2) rfl (hB2.gr g3) (ed_call (ea_cons (ed_var rfl ay1) ea_nil) ⟨_, c1, rfl, rfl⟩) (ed_var rfl ax1) ⟨p.1, p.2.2, rfl, c2, c3, c4, c5, c6⟩ g3.sub fun I4 H4 g4 hB4 => ?_
      exact hN _ I4 H4 g4 ⟨_, _, (g2.tr g3).new0 g4 hM, hB4, rfl⟩
    · rintro σ1 I2 H2 s2 ⟨q1, q2, g2, hB2, rfl⟩
      have hB3 : Brd K b pl (hB 3) I2 H2 := hB2
      refine sq_brdA (i := 0) (B' := hB1 [] 4) rfl hB3 (ea_cons (ed_tup (ea_cons (ed_tup (ea_cons ed_str (ea_cons ed_str (ea_cons ed_str (ea_cons ed_int (ea_cons ed_int ea_nil))))) (by simp)) (ea_cons (ed_tup (ea_cons ed_str (ea_cons ed_str (ea_cons ed_str (ea_cons ed_int (ea_cons ed_int ea_nil))))) (by simp)) (ea_cons (ed_tup (ea_cons ed_str (ea_cons ed_str (ea_cons ed_str (ea_cons ed_int (ea_cons ed_int ea_nil))))) (by simp)) (ea_cons (ed_tup (ea_cons ed_str (ea_cons ed_str (ea_cons ed_str (ea_cons ed_int (ea_cons ed_int ea_nil))))) (by simp)) ea_nil)))) (by simp)) ea_nil) ⟨hDl, rfl, by decide, hPut, hAfter.symm⟩ s2 fun pl' I3 H3 g3 hpl' hB4 => ?_
      have g03 := g2.new0 g3 hM
      have hpl'0 : H0 pl' = none := g2.back hpl'
      have hM' : ∀ x ∈ [b, pl'], H0 x = none := fun x hx => by
        rcases List.mem_cons.mp hx with rfl | hx
        · exact hb0
        · rw [List.mem_singleton.mp hx]
          exact hpl'0
      refine sq_asg (K := K) (d := .lst [strsT ["d"], prsT pA, prsT pB, prsT pA]) (ed_lst (ea_cons ((ed_brdU (i := 0) rfl hB4 ea_nil ⟨rfl, hBdOk _ (by decide) _, rfl⟩).is (congrArg (fun l : List Str => D.tup (l.map D.str)) (idle0 _))) (ea_cons ((ed_brdU (i := 0) rfl (hB4) (ea_cons ed_str ea_nil) ⟨"d", hCs, hTs, hF, hZs, rfl, hOk _ _, by show ("d" : Str) ∈ (["d", "b", "a"] : List Str); decide, by show 0 + 2 < 900; decide, rfl⟩).is (congrArg (fun l : List (Str × Str) => D.tup (l.map pairS)) sure_d)) (ea_cons ((ed_brdU (i := 0) rfl (hB4) (ea_cons ed_str ea_nil) ⟨"b", hCs, hTs, hF, hZs, rfl, hOk _ _, by show ("b" : Str) ∈ (["d", "b", "a"] : List Str); decide, by show 0 + 1 < 900; decide, rfl⟩).is (congrArg (fun l : List (Str × Str) => D.tup (l.map pairS)) sure_b)) (ea_cons ((ed_brdU (i := 0) rfl (hB4) (ea_cons ed_str ea_nil) ⟨"a", hCs, hTs, hF, hZs, rfl, hOk _ _, by show ("a" : Str) ∈ (["d", "b", "a"] : List Str); decide, by show 0 + 1 < 900; decide, rfl⟩).is (congrArg (fun l : List (Str × Str) => D.tup (l.map pairS)) sure_a)) ea_nil)))) (by simp)) g03.sub fun got I4 H4 g4 a4 => ?_
      refine sq_asg (K := K) (d := .lst [strsT ["d"], prsT pA, prsT pB]) (ed_lst (ea_cons (ed_tup ((ea_cons ed_str ea_nil)) (by simp)) (ea_cons (ed_tup (ea_cons (ed_tup ((ea_cons ed_str (ea_cons ed_str ea_nil))) (by simp)) (ea_cons (ed_tup ((ea_cons ed_str (ea_cons ed_str ea_nil))) (by simp)) ea_nil)) (show 2 ≤ 100000 by decide)) (ea_cons (ed_tup (ea_cons (ed_tup ((ea_cons ed_str (ea_cons ed_str ea_nil))) (by simp)) (ea_cons (ed_tup ((ea_cons ed_str (ea_cons ed_str ea_nil))) (by simp)) (ea_cons (ed_tup ((ea_cons ed_str (ea_cons ed_str ea_nil))) (by simp)) ea_nil))) (show 3 ≤ 100000 by decide)) ea_nil))) (by simp)) g4.sub fun goal I5 H5 g5 a5 => ?_
      refine sq_asg (K := K) (d := .lst ([strsT ["d"], prsT pA, prsT pB] ++ [prsT pA])) (ed_op (ed_var rfl a5) (ed_lst (ea_cons (ed_tup (ea_cons (ed_tup ((ea_cons ed_str (ea_cons ed_str ea_nil))) (by simp)) (ea_cons (ed_tup ((ea_cons ed_str (ea_cons ed_str ea_nil))) (by simp)) ea_nil)) (show 2 ≤ 100000 by decide)) ea_nil) (by simp)) (rd_catL (by show 3 + 1 ≤ _; decide))) g5.sub fun goal2 I6 H6 g6 a6 => ?_
      have g36 := (g4.tr g5).tr g6
      refine sq_brdM (i := 0) (B' := hB1 [(false, 7)] 5) rfl (hB4.gr g36) (ea_cons (ed_call (ea_cons ed_str ea_nil) ⟨("county 7", [(false, 7)]), by decide, rfl, rfl⟩) ea_nil) ⟨[(false, 7)], rfl, by decide, rfl⟩ g6.sub fun I7 H7 g7 hB7 => ?_
      have g07 := (g03.tr g36).new0 g7 hM'
      refine sx_ret g07 q (ed_call (ea_cons (ed_op (ed_var rfl (((a4.gr g5).gr g6).gr g7)) (ed_lst (ea_cons ((ed_brdU (i := 0) rfl (hB7) ea_nil ⟨rfl, hBdOk _ (by decide) _, rfl⟩).is (congrArg (fun l : List Str => D.tup (l.map D.str)) (idle7 _))) (ea_cons ((ed_brdU (i := 0) rfl (hB7) (ea_cons ed_str ea_nil) ⟨"b", hCs, hTs, hF, hZs, rfl, hOk _ _, by show ("b" : Str) ∈ (["d", "b", "a"] : List Str); decide, by show 1 + 1 < 900; decide, rfl⟩).is (congrArg (fun l : List (Str × Str) => D.tup (l.map pairS)) sure7)) ea_nil)) (by simp)) (rd_catL (by show 4 + 2 ≤ _; decide))) (ea_cons (ed_op (ed_var rfl (a6.gr g7)) (ed_lst (ea_cons (ed_tup ((ea_cons ed_str (ea_cons ed_str ea_nil))) (by simp)) (ea_cons (ed_tup (ea_cons (ed_tup ((ea_cons ed_str (ea_cons ed_str ea_nil))) (by simp)) (ea_cons (ed_tup ((ea_cons ed_str (ea_cons ed_str ea_nil))) (by simp)) ea_nil)) (show 2 ≤ 100000 by decide)) ea_nil)) (by simp)) (rd_catL (by show 4 + 2 ≤ _; decide))) ea_nil)) ⟨hGot, rfl, lv_got, rfl⟩)
end
end K98

/-! S10: the parts joined. -/
namespace K98
open PySem PySem.Spec PyProof.Rows L2
theorem law_fn {P : Program} {w : World} {K : PySem.W.Frag} {mg : Str → Option Value} {base : Heap} {fd : FuncData} (T : Txt K mg) (F : FunD K "law" "law" (defArgs s_law) (defBody s_law) (defScope s_law) [] [] 1137 fd) : FnOk P w K mg base CX0 14 1137 fd ["_law_script"] (lawSp K) := by
  have G_least_in := ok_least_in (P := P) (w := w) (base := base) T
  have G_many_from := ok_many_from (P := P) (w := w) (base := base) T
  have G_floors_in := ok_floors_in (P := P) (w := w) (base := base) T
  have G_form_with := ok_form_with (P := P) (w := w) (base := base) T
  have G_Step_kind := ok_Step_kind (P := P) (w := w) (base := base) T
  have G_Step_least := ok_Step_least (P := P) (w := w) (base := base) T
  have G_form_of_step := ok_form_of_step (P := P) (w := w) (base := base) T G_Step_kind G_Step_least
  have G_form_behind := ok_form_behind (P := P) (w := w) (base := base) T G_least_in G_floors_in G_form_with
  have G_form_of_steps := ok_form_of_steps (P := P) (w := w) (base := base) T G_form_of_step G_form_behind
  have G_places_of := ok_places_of (P := P) (w := w) (base := base) T
  have G_is_within := ok_is_within (P := P) (w := w) (base := base) T G_places_of G_many_from
  have G_Step_init := ok_Step_init (P := P) (w := w) (base := base) T
  have G_Script_init := ok_Script_init (P := P) (w := w) (base := base) T G_form_of_steps
  have G_Script_steps := ok_Script_steps (P := P) (w := w) (base := base) T
  have G_Script_form := ok_Script_form (P := P) (w := w) (base := base) T
  have G_Script_within := ok_Script_within (P := P) (w := w) (base := base) T G_is_within G_Script_form
  have G_Script_rshift := ok_Script_rshift (P := P) (w := w) (base := base) T G_Script_init G_Script_steps
  have G_Board_state := ok_Board_state (P := P) (w := w) (base := base) T
  have G_Board_keep := ok_Board_keep (P := P) (w := w) (base := base) T G_Board_state
  have G_Board_check := ok_Board_check (P := P) (w := w) (base := base) T
  have G_Board_setitem := ok_Board_setitem (P := P) (w := w) (base := base) T G_Board_keep
  have G_Board_turn := ok_Board_turn (P := P) (w := w) (base := base) T G_Board_keep
  have G_Board_whole := ok_Board_whole (P := P) (w := w) (base := base) T G_Board_check G_Script_rshift
  have G_Board_idle := ok_Board_idle (P := P) (w := w) (base := base) T G_Board_whole G_Script_within
  have G_Board_init := ok_Board_init (P := P) (w := w) (base := base) T G_Script_init
  have G_law_take := ok_law_take (P := P) (w := w) (base := base) T
  have G_law_of := ok_law_of (P := P) (w := w) (base := base) T G_law_take
  have G_law_stride := ok_law_stride (P := P) (w := w) (base := base) T G_law_take G_law_of
  have G_law_line := ok_law_line (P := P) (w := w) (base := base) T G_law_take G_law_stride
  have G_law_host := ok_law_host (P := P) (w := w) (base := base) T G_Step_init G_Script_init
  have G_law_left := ok_law_left (P := P) (w := w) (base := base) T
  have G_law_all_in := ok_law_all_in (P := P) (w := w) (base := base) T
  have G_law_papers := ok_law_papers (P := P) (w := w) (base := base) T
  have G_law_box := ok_law_box (P := P) (w := w) (base := base) T
  have G_law_cells := ok_law_cells (P := P) (w := w) (base := base) T
  have G_number_in := ok_number_in (P := P) (w := w) (base := base) T
  have G_Step_of := ok_Step_of (P := P) (w := w) (base := base) T G_number_in G_Step_init
  have G_summed := ok_summed (P := P) (w := w) (base := base) T
  have G_County_init := ok_County_init (P := P) (w := w) (base := base) T G_summed
  have G_County_rows := ok_County_rows (P := P) (w := w) (base := base) T
  have G_County_contains := ok_County_contains (P := P) (w := w) (base := base) T
  have G_County_only := ok_County_only (P := P) (w := w) (base := base) T G_County_init
  have G_Step_call := ok_Step_call (P := P) (w := w) (base := base) T G_County_only G_County_rows G_County_init
  have G_Script_call := ok_Script_call (P := P) (w := w) (base := base) T G_Step_call
  have G_Script_of := ok_Script_of (P := P) (w := w) (base := base) T G_Step_of G_Script_init
  have G_Board_put := ok_Board_put (P := P) (w := w) (base := base) T G_Board_keep
  have G_Board_done := ok_Board_done (P := P) (w := w) (base := base) T G_Board_put
  have G_Board_attempt := ok_Board_attempt (P := P) (w := w) (base := base) T G_Board_state G_Board_done
  have G_Board_check_county := ok_Board_check_county (P := P) (w := w) (base := base) T
  have G_Board_towns_of := ok_Board_towns_of (P := P) (w := w) (base := base) T G_Board_check_county
  have G_Board_county_at := ok_Board_county_at (P := P) (w := w) (base := base) T G_County_init
  have G_Board_shown_at := ok_Board_shown_at (P := P) (w := w) (base := base) T G_Board_whole G_Board_county_at G_Board_towns_of G_Script_call G_County_contains
  have G_Board_sure := ok_Board_sure (P := P) (w := w) (base := base) T G_Board_shown_at
  have G_law_same := ok_law_same (n := 2) T (ok_law_same (n := 1) T (ok_law_same (n := 0) T (ok_law_same0 (P := P) (w := w) (base := base) T)))
  have G_law_by_hand_right := ok_law_by_hand_right (P := P) (w := w) (base := base) T G_Board_init G_Script_of G_Board_setitem G_Board_attempt G_Board_idle G_Board_sure G_Board_turn G_law_same
  have G_law_right := ok_law_right (P := P) (w := w) (base := base) T G_law_by_hand_right G_Board_init G_law_line G_Board_turn G_law_host G_law_take G_Board_setitem G_Board_idle G_law_papers G_law_left G_law_all_in
  exact ok_law (P := P) (w := w) (base := base) T F G_law_cells G_law_box G_law_right
end K98
open PySem PySem.W PySem.Calls PyProof.Rows
theorem PySem.Challenge.cw_smalltowns_k98_whole_idle_reports_show_n_holds : PySem.Challenge.rw_smalltowns_k98_whole_idle_reports_show_n.Holds := by
  w_on; o_law
  refine HandSHeadRun.head_any (r := K98.rowR) (q := view K98.rowR.prog [74]) (H := K98.theHook) (ob := K98.obT) (M := 9000) (loose := K98.looseL) (d := HandSHeadRun.topDef K98.rowR.prog 74) (kwd := []) K98.obT_eq
    (by kernel_rfl) (fun s => by kernel_rfl) K98.topRun (by kernel_rfl) (by kernel_rfl) (by kernel_rfl) (by rfl) (by first | assumption | decide +kernel) (by decide +kernel) ⟨rfl, rfl, rfl, rfl, rfl, by decide +kernel⟩ ?hw ?hc
  case hw => w_witness2
  case hc =>
    refine L2.walk_ofE (l := PySem.Challenge.rw_smalltowns_k98_whole_idle_reports_show_n) (n := 63) (k := 14) (x := "_law_script") (CX := L2.CX0) rfl (by decide) (by kernel_rfl) ⟨rfl, by decide, by decide⟩ ?F (fun _ _ _ _ z => z)
    intro w mg fa h Y G hmg0
    obtain ⟨K, KX, c⟩ := Y
    have hmg : mg ("law" : PySem.Str) = some (.ref fa) := by
      have e : (HandSHeadRun.topDef K98.rowR.prog 74).name = ("law" : PySem.Str) := by kernel_rfl
      rw [← e]
      exact hmg0
    have T : K98.Txt K mg := ⟨c, fun x v e => PySem.W.mg_of KX G e, fun x e => PySem.W.mg_none_of KX G e⟩
    have e := hmg.symm.trans T.g_law
    cases e
    obtain ⟨fd, F⟩ := T.f_law
    have b := L2.FunD.bindsA (ps := ["_law_script"]) F fun _ _ _ _ _ _ us hl => match us, hl with | [_], _ => rfl
    exact ⟨K, fd, K98.lawSp K, KX, fun s v => b s [v] rfl, fun H a ns hl _ hS => ⟨a, ns, rfl, hS, hl, fun _ => rfl⟩, fun base _ _ => K98.law_fn T F⟩
